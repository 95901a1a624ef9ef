/- What is proved: rows of one's own taken apart into bare cells and what the elements own, and put together again. No condition. -/
import Derived.Test.YtmejbfmhaoilmaaGreatBase0
import Derived.Laws.BytesArg
import Derived.Laws.StructEq
import Derived.ChangeArms
import Derived.SizedLaws
import Derived.OpenShut
import Derived.ChangeMaps5
import Derived.Tactics
import Derived.Lib.SlicesCompact
import Derived.Sort.Row
import Derived.Sort.Grow
namespace Go.Proofs.YtmejbfmhaoilmaaGreat
open Go Go.RowKit
set_option linter.unusedVariables false
set_option linter.unusedSimpArgs false

def kraw (n : Nat) (hn : 0 < n) : Kd (List Value) where
  sz := n
  pos := hn
  ro _ _ x cs := cs = x ∧ x.length = n ∧ ∀ u, u ∈ x → u.oneCell' = true
  own _ _ x cs := cs = x ∧ x.length = n ∧ ∀ u, u ∈ x → u.oneCell' = true
  ro_len h := by rw [h.1]; exact h.2.1
  ro_one h u hu := by rw [h.1] at hu; exact h.2.2 u hu
  ro_up h _ := h
  ro_loc h _ := h
  own_ro h := h
  own_up h _ := h
  own_loc h _ := h
  own_lt h := h
def seqC {α : Type} (K : Kd α) (xs : List α) (css : List (List Value)) : Asn := ⟨Star (seqA K xs css), Star.up, Star.loc, Star.lt⟩
theorem seqA_cons {α : Type} (K : Kd α) (x : α) (xs : List α) (c : List Value) (css : List (List Value)) : seqA K (x :: xs) (c :: css) = ownA K x c :: seqA K xs css := rfl
theorem take_get {α : Type} {xs : List α} {k : Nat} {x : α} (h : xs[k]? = some x) : xs.take (k + 1) = xs.take k ++ [x] := by
  rw [List.take_add_one, h]; rfl
theorem set_get {css : List (List Value)} {k : Nat} {c c' : List Value} (h : css[k]? = some c) : (css.set k c')[k]? = some c' := by
  obtain ⟨hk, _⟩ := List.getElem?_eq_some_iff.1 h
  exact List.getElem?_set_self hk
theorem raw_seq {n : Nat} {hn : 0 < n} : ∀ {css : List (List Value)}, (∀ c, c ∈ css → c.length = n ∧ ∀ u, u ∈ c → u.oneCell' = true) → ∀ (w : World) (S : Bs), Star (seqA (kraw n hn) css css) w S
  | [], _, _, _ => trivial
  | c :: css, h, w, S => ⟨fun _ => False, fun _ => False, ⟨rfl, h c List.mem_cons_self⟩, raw_seq (fun d hd => h d (List.mem_cons_of_mem _ hd)) w _, fun _ h => h.elim, fun _ h => h.elim, fun _ h => h.elim⟩
theorem raw_eq {n : Nat} {hn : 0 < n} : ∀ {xs css : List (List Value)} {w : World} {S : Bs}, css.length = xs.length → Star (seqA (kraw n hn) xs css) w S → css = xs
  | [], [], _, _, _, _ => rfl
  | [], _ :: _, _, _, h, _ => by simp at h
  | _ :: _, [], _, _, h, _ => by simp at h
  | x :: xs, c :: css, w, S, hl, h => by
    have h1 : (kraw n hn).own w S x c := Star.head (c := ownA (kraw n hn) x c) h
    rw [h1.1, raw_eq (by simpa using hl) (Star.drop (c := ownA (kraw n hn) x c) h)]
theorem raw_lens {n : Nat} {hn : 0 < n} {css : List (List Value)} {w : World} {S : Bs} (h : Star (seqA (kraw n hn) css css) w S) : ∀ c, c ∈ css → c.length = n ∧ ∀ u, u ∈ c → u.oneCell' = true := fun c hc => by
  obtain ⟨j, hj, rfl⟩ := List.mem_iff_getElem.1 hc
  exact (seq_at h (List.getElem?_eq_getElem hj) (List.getElem?_eq_getElem hj)).2
theorem seq_ones {α : Type} {K : Kd α} {xs : List α} {css : List (List Value)} {w : World} {S : Bs} (hl : css.length = xs.length) (h : Star (seqA K xs css) w S) : ∀ c, c ∈ css → c.length = K.sz ∧ ∀ u, u ∈ c → u.oneCell' = true := fun c hc => by
  obtain ⟨j, hj, rfl⟩ := List.mem_iff_getElem.1 hc
  obtain ⟨y, hy⟩ := get_ex (xs := xs) (j := j) (by omega)
  have ho := seq_at h hy (List.getElem?_eq_getElem hj)
  exact ⟨own_len ho, K.ro_one (K.own_ro ho)⟩
theorem own_raw {α : Type} {K : Kd α} {e by_ : Nat} {xs : List α} {v : Value} (w : World) (S : Bs) (h : Star [ownA (kslice e by_ K) xs [v]] w S) : ∃ css : List (List Value), css.length = xs.length ∧ Star [ownA (kslice e by_ (kraw K.sz K.pos)) css [v], seqC K xs css] w S := by
  rcases (show (kslice e by_ K).own w S xs [v] from h.head (c := ownA _ _ _)) with ⟨A, hv, rfl⟩ | ⟨g, c, css, hv, h1, h2, h3, h4, h5⟩
  · exact ⟨[], rfl, fun _ => False, fun _ => False, .inl ⟨A, hv, rfl⟩, Star.one (c := seqC K _ _) trivial, fun _ h => h.elim, fun _ h => h.elim, fun _ h => h.elim⟩
  · obtain ⟨A, B, hA, hB, a, b, d⟩ := h5
    refine ⟨css, h4, A, B, .inr ⟨g, c, css, by rw [h4]; exact hv, by rw [h4]; exact h1, h2, by rw [h4]; exact h3, rfl, A, fun _ => False, hA, raw_seq (seq_ones h4 hB) w _, fun _ h => h, fun _ h => h.elim, fun _ _ h => h⟩, Star.one (c := seqC K _ _) hB, a, b, d⟩
theorem raw_own {α : Type} {K : Kd α} {e by_ : Nat} {xs : List α} {css : List (List Value)} {v : Value} (hl : css.length = xs.length) (w : World) (S : Bs) (h : Star [ownA (kslice e by_ (kraw K.sz K.pos)) css [v], seqC K xs css] w S) : (ownA (kslice e by_ K) xs [v]).p w S := by
  obtain ⟨A, B, hA, hB, a, b, d⟩ := h
  have hB' : Star (seqA K xs css) w B := hB.head (c := seqC K xs css)
  rcases (show (kslice e by_ (kraw K.sz K.pos)).own w A css [v] from hA) with ⟨A0, hv, rfl⟩ | ⟨g, c, cs2, hv, h1, h2, h3, h4, h5⟩
  · obtain rfl := List.eq_nil_of_length_eq_zero (show xs.length = 0 from hl.symm)
    exact .inl ⟨A0, hv, rfl⟩
  · obtain ⟨C, D, hC, hD, i, j, dd⟩ := h5
    obtain rfl := raw_eq h4 hD
    exact .inr ⟨g, c, _, by rw [hl] at hv; exact hv, by rw [hl] at h1; exact h1, h2, by rw [hl] at h3; exact h3, hl, C, B, hC, hB', fun x hx => a x (i x hx), b, fun x hx => d x (i x hx)⟩
def subL {α : Type} (xs : List α) (a b : Nat) : List α := (xs.take b).drop a
theorem subL_len {α : Type} {xs : List α} {a b : Nat} (hb : b ≤ xs.length) : (subL xs a b).length = b - a := by simp [subL, Nat.min_eq_left hb]
theorem subL_get {α : Type} {xs : List α} {a b j : Nat} {x : α} (h : (subL xs a b)[j]? = some x) : xs[a + j]? = some x := by
  unfold subL at h
  rw [List.getElem?_drop, List.getElem?_take] at h
  split at h
  · exact h
  · cases h
theorem subL_erase {α : Type} (xs : List α) (q : Nat) : subL xs 0 q ++ subL xs (q + 1) xs.length = xs.eraseIdx q := by
  rw [List.eraseIdx_eq_take_drop_succ]; simp [subL]
theorem ro_he {α : Type} {K : Kd α} {e by_ : Nat} {w : World} {F : Bs} {xs : List α} {A : Option Addr} {n c : Nat} (h : (kslice e by_ K).ro w F xs [.slice A n c]) : 0 < xs.length → ∃ ad, A = some ad ∧ RoAt K w F ad xs := fun hp => by
  obtain ⟨A', c', hv, _, _, _, h4⟩ := ro_form h
  obtain ⟨ad, ha, hr⟩ := h4 hp
  injection hv with h1 _ _
  exact ⟨ad, h1.trans ha, hr⟩
theorem ro_sub {α : Type} {K : Kd α} {e by_ : Nat} {w : World} {F : Bs} {xs : List α} {A A' : Option Addr} {c a b : Nat} (hA : A' = (if c = a then A else A.map (·.add (a * K.sz)))) (h : (kslice e by_ K).ro w F xs [.slice A xs.length c]) (hab : a ≤ b) (hb : b ≤ xs.length) : (kslice e by_ K).ro w F (subL xs a b) [.slice A' (subL xs a b).length (c - a)] := by
  obtain ⟨A0, c0, hv, h1, h2, h3, h4⟩ := ro_form h
  injection hv with e1 e2 e3
  subst e1; subst e3
  have hl := subL_len (a := a) hb
  refine ⟨A', c - a, rfl, by rw [hl]; omega, by omega, by rw [hl]; have : (b - a) * by_ ≤ xs.length * by_ := Nat.mul_le_mul_right _ (by omega); omega, fun hp => ?_⟩
  rw [hl] at hp
  obtain ⟨ad, rfl, hF, hr⟩ := h4 (by omega)
  rw [if_neg (by omega)] at hA
  refine ⟨ad.add (a * K.sz), hA, by rw [add_block]; exact hF, fun j x hx => ?_⟩
  obtain ⟨ecs, k1, k2⟩ := hr (a + j) x (subL_get hx)
  refine ⟨ecs, k1, fun i u hu => ?_⟩
  rw [add_add, show a * K.sz + (j * K.sz + i) = (a + j) * K.sz + i by rw [Nat.add_mul]; omega]
  exact k2 i u hu
theorem PtrRo.wide {α : Type} {K : Kd α} {w w' : World} {F F' : Bs} {ad : Addr} {x : α} (h : PtrRo K w F ad x) (hw : ∀ b, F b → F' b ∧ w'.heap[b]? = w.heap[b]?) : PtrRo K w' F' ad x := by
  obtain ⟨ecs, h1, h2, h3⟩ := h
  exact ⟨ecs, (hw _ h1).1, K.ro_up (K.ro_loc h2 (fun b hb => (hw b hb).2)) (fun b hb => (hw b hb).1), fun i u hu => (cell_loc (by rw [add_block]; exact (hw _ h1).2)).trans (h3 i u hu)⟩
section
variable {P : Program} {T : Slots} {Wd : World → Prop} {o : Oper} {N : Nat} {w0 : World} {S0 : Bs} {l l' lk : List Asn}
theorem q_sliceL {α : Type} {xs : List α} {x : Operand} {t e : TypeId} {sz : Nat} {lo hi : Option Operand} {a b c : Nat} {A A' : Option Addr} (ho : o.op = .slice t x lo hi none) (ht : P.underlying t = some (.slice e)) (he : (P.info? e).map (·.size) = some sz) (hx : Val T x (.slice A xs.length c)) (hA : A' = (if c = a then A else A.map (·.add (a * sz))))
    (hlo : (lo = none ∧ a = 0) ∨ ∃ z k, lo = some z ∧ Val T z (.int k (a : Int))) (hhi : (hi = none ∧ b = xs.length) ∨ ∃ z k, hi = some z ∧ Val T z (.int k (b : Int))) (h1 : a ≤ b) (h2 : b ≤ xs.length) (h3 : xs.length ≤ c) :
    Quiet P o T Wd (.slice A' (subL xs a b).length (c - a)) := by
  rw [subL_len h2, hA]
  exact q_slice ho ht he hx hlo hhi h1 (Nat.le_trans h2 h3)
theorem WS.raw {n : Nat} {hn : 0 < n} {e by_ : Nat} {css : List (List Value)} {ad : Addr} {m c j i : Nat} {cs : List Value} {u : Value} (ht : Take l (ownA (kslice e by_ (kraw n hn)) css [.slice (some ad) m c]) l') (hc : css[j]? = some cs) (hu : cs[i]? = some u) : ∀ w, WS w0 S0 l w → w.cell? ((ad.add (j * n)).add i) = some u := fun w hw => by
  obtain ⟨S, hs, _, _⟩ := hw.take ht
  obtain ⟨A', c', h, _, _, _, h4⟩ := ro_form ((kslice e by_ (kraw n hn)).own_ro (show (kslice e by_ (kraw n hn)).own w S css _ from hs.head))
  obtain ⟨ad', ha, hr⟩ := h4 (by have := (List.getElem?_eq_some_iff.1 hc).1; omega)
  injection h with g1 g2 g3
  rw [ha] at g1
  obtain rfl := Option.some.inj g1
  obtain ⟨ecs, ⟨rfl, _⟩, _, hcc⟩ := hr.elem hc
  exact hcc i _ hu
theorem putAt_ones {fl cs : List Value} {off : Nat} (h : ∀ u, u ∈ fl → u.oneCell' = true) (h2 : ∀ u, u ∈ cs → u.oneCell' = true) : ∀ u, u ∈ putAt fl off cs → u.oneCell' = true := fun u hu => by
  unfold putAt at hu
  rcases List.mem_append.1 hu with hu | hu
  · rcases List.mem_append.1 hu with hu | hu
    · exact h u (List.mem_of_mem_take hu)
    · exact h2 u hu
  · exact h u (List.mem_of_mem_drop hu)
theorem flatten_put {css : List (List Value)} {n : Nat} {c cs : List Value} {off : Nat} (hl : ∀ c, c ∈ css → c.length = n) (hb : off + cs.length ≤ n) : ∀ {j : Nat}, css[j]? = some c → putAt css.flatten (j * n + off) cs = (css.set j (putAt c off cs)).flatten := by
  induction css with
  | nil => intro j hj; simp at hj
  | cons d css ih =>
    intro j hj
    have hd := hl d List.mem_cons_self
    cases j with
    | zero =>
      simp at hj; subst hj
      simp only [List.set_cons_zero, List.flatten_cons, putAt, Nat.zero_mul, Nat.zero_add]
      rw [List.take_append_of_le_length (by omega), List.drop_append_of_le_length (by omega)]
      simp only [List.append_assoc]
    | succ j =>
      simp only [List.set_cons_succ, List.flatten_cons]
      rw [← ih (fun c hc => hl c (List.mem_cons_of_mem _ hc)) (by simpa using hj)]
      have e1 : (j + 1) * n + off = d.length + (j * n + off) := by rw [Nat.succ_mul, hd]; omega
      have e2 : (d ++ css.flatten).take (d.length + (j * n + off)) = d ++ css.flatten.take (j * n + off) := by
        rw [List.take_append, List.take_of_length_le (by omega), Nat.add_sub_cancel_left]
      have e3 : (d ++ css.flatten).drop (d.length + (j * n + off) + cs.length) = css.flatten.drop (j * n + off + cs.length) := by
        rw [List.drop_append, List.drop_of_length_le (by omega), List.nil_append]
        congr 1; omega
      simp only [putAt, e1, e2, e3, List.append_assoc]
theorem es_raw {n : Nat} {hn : 0 < n} {e by_ : Nat} {css : List (List Value)} {c0 cs : List Value} {ad : Addr} {m c j off : Nat} {p x : Operand} {t : TypeId} {v : Value} {B : Addr} (ho : o.op = .store t p x) (hi : (P.info? t).map (·.size) = some cs.length) (hp : Val T p (.pointer (some B))) (hB : B = ad.add (j * n + off)) (hx : Val T x v) (hv : v.cells.toList = cs)
    (h1 : ∀ u, u ∈ cs → u.oneCell' = true) (hT : Take l (ownA (kslice e by_ (kraw n hn)) css [.slice (some ad) m c]) l') (hj : css[j]? = some c0) (hb : off + cs.length ≤ n) : EffS P o T w0 S0 l (ownA (kslice e by_ (kraw n hn)) (css.set j (putAt c0 off cs)) [.slice (some ad) m c] :: l') := by
  intro a w ha hw
  subst hB
  obtain ⟨S1, hA, _, hk⟩ := (hw.takes (.c hT .n)).eff
  have hA' : (kslice e by_ (kraw n hn)).own w S1 css [.slice (some ad) m c] := hA.head (c := ownA _ _ _)
  obtain ⟨i0, k1, k2⟩ := Option.map_eq_some_iff.1 hi
  rcases hA' with ⟨A, h, rfl⟩ | ⟨g, c', css', h, h1', h2, h3, h4, h5⟩
  · simp at hj
  have h' := List.singleton_inj.1 h
  injection h' with g1 g2 g3
  obtain rfl := Option.some.inj g1
  subst g2; subst g3
  obtain ⟨B1, B2, ⟨hg, cur, q1, q2, q3, q4⟩, hseq, i1, i2, dd⟩ := h5
  have he := raw_eq h4 hseq
  rw [he] at hseq q3 q4
  have hraw := raw_lens hseq
  have hlen : ∀ d, d ∈ css → d.length = n := fun d hd => (hraw d hd).1
  have hfl : css.flatten.length = css.length * n := flatten_len hlen
  have hjl := (List.getElem?_eq_some_iff.1 hj).1
  have hc0 := hlen c0 (List.mem_of_getElem? hj)
  have hmul : (j + 1) * n ≤ css.length * n := Nat.mul_le_mul_right _ hjl
  rw [Nat.succ_mul] at hmul
  have hbd : j * n + off + cs.length ≤ css.flatten.length := by rw [hfl]; omega
  have hsz : (kraw n hn).sz = n := rfl
  rw [hsz] at q2
  have hst := run_storeCells_at P g (j * n + off) e cs 0 cur w q1 (by omega) h1
  simp only [Nat.add_zero] at hst
  have hne : ∀ b, b ≠ g → (w.setRow g (cur.toList.take (j * n + off) ++ cs ++ cur.toList.drop (j * n + off + cs.length)).toArray).heap[b]? = w.heap[b]? := fun b hb => setRow_other w g b _ hb
  refine ⟨w.setRow g (cur.toList.take (j * n + off) ++ cs ++ cur.toList.drop (j * n + off + cs.length)).toArray, ?_, hk _ [ownA (kslice e by_ (kraw n hn)) (css.set j (putAt c0 off cs)) [.slice (some ⟨g, 0, none⟩) css.length c]] S1 (Star.one (c := ownA (kslice e by_ (kraw n hn)) _ _) ?_) (fun b hb => .inl hb) ?_⟩
  · have hsz : v.cells.size = i0.size := by rw [k2, ← hv, Array.length_toList]
    simp only [execOp, ho, hp a ha, hx a ha]
    rw [add_plain']
    simp [Instr.storeAt, Instr.sureAddr, storeVar, sizeOf, typeInfo, k1, hsz, hv, hst]
  · refine .inr ⟨g, c, css.set j (putAt c0 off cs), by rw [List.length_set], by rw [List.length_set]; exact h1', h2, by rw [List.length_set]; exact h3, rfl, ?_⟩
    refine ⟨fun b => b = g, fun b => False, ⟨rfl, _, setRow_heap w g cur _ e _ q1, ?_, ?_, ?_⟩, raw_seq (fun d hd => ?_) _ _, fun b hb => hb ▸ i1 g hg, fun b hb => hb.elim, fun b hb hb' => hb'⟩
    · simp only [List.size_toArray, List.length_append, List.length_take, List.length_drop, Array.length_toList, hsz]; omega
    · rw [← flatten_put hlen hb hj, putAt_len hbd]; simp only [List.size_toArray, List.length_append, List.length_take, List.length_drop, Array.length_toList]; omega
    · rw [← flatten_put hlen hb hj, putAt_len hbd]
      have := take_put (L := cur.toList) (cs := cs) (off := j * n + off) (n := css.flatten.length) hbd (by rw [Array.length_toList]; exact q3)
      rw [q4] at this
      exact this
    · rcases List.mem_or_eq_of_mem_set hd with hd | rfl
      · exact hraw d hd
      · exact ⟨by rw [putAt_len (by omega)]; exact hc0, putAt_ones (hraw c0 (List.mem_of_getElem? hj)).2 h1⟩
  · exact ⟨rfl, rfl, rfl, by simp, fun b hb hn' => hne b (fun e => hn' (e ▸ i1 g hg))⟩
theorem e_buildNil {t e : TypeId} {sz : Nat} {z : Value} (ho : o.op = .buildSlice t 0 #[]) (ht : P.underlying t = some (.slice e)) (he : (P.info? e).map (fun i => (i.size, i.zero)) = some (sz, some z)) : Eff P o T w0 S0 l (fun r l' => ∃ g, r = .slice (some ⟨g, 0, none⟩) 0 0 ∧ l' = rowA g e sz 0 [] :: l) := by
  intro a w ha hw
  obtain ⟨i0, h1, h2⟩ := Option.map_eq_some_iff.1 he
  obtain ⟨h2, h3⟩ := Prod.mk.inj h2
  refine ⟨.slice (some ⟨w.heap.size, 0, none⟩) 0 0, w.alloc (.cells #[] e), _, ?_, ⟨_, rfl, rfl⟩, hw.new #[] e sz 0 (by simp)⟩
  simp only [execOp, ho]
  simp [Instr.buildSlice, run_underlying ht, sizeOf, typeInfo, h1, h2, h3, newRow, Instr.fill]
  have h0 : Array.range 0 = #[] := by apply Array.ext <;> simp
  rw [h0, Array.map_empty]
theorem e_buildSliceL {t e : TypeId} {len sz : Nat} {parts : Array (Nat × Operand)} {ps : List (Nat × Value)} {z : Value} {zc cs : List Value} (ho : o.op = .buildSlice t len parts) (ht : P.underlying t = some (.slice e)) (he : (P.info? e).map (fun i => (i.size, i.zero)) = some (sz, some z)) (hlen : len * sz ≤ 16777216)
    (hps : ∀ a : Act, Holds T a → (parts.map fun (i, x) => (i, a.eval x)) = ps.toArray) (hz : z.cells.toList = zc) (hzl : zc.length = sz) (hpos : 0 < sz) (hfill : Instr.fill (fun i => some (i * sz, sz)) (List.replicate len zc).flatten.toArray ps = some cs.toArray) (hcs : cs.length = len * sz) :
    Eff P o T w0 S0 l (fun r l' => ∃ g, r = .slice (some ⟨g, 0, none⟩) len len ∧ l' = rowA g e sz len cs :: l) := by
  subst hz
  refine e_buildSlice ho ht he hlen hps ?_ hcs
  rw [← hfill]
  congr 1
  have hzs : z.cells.size = sz := by rw [← hzl, Array.length_toList]
  by_cases h0 : len * sz = 0
  · have hl : len = 0 := by rcases Nat.mul_eq_zero.1 h0 with h | h <;> omega
    subst hl
    apply Array.ext <;> simp
  · simp only [if_neg h0]
    apply Array.toList_inj.1
    have := madeCells_flat z.cells len (by omega)
    rw [hzs] at this
    rw [← this]
    rfl
theorem lit_own {α : Type} {enc : α → Value} {ok : α → Prop} {h1 : ∀ x, (enc x).oneCell' = true} {e by_ g n : Nat} {xs : List α} {w : World} {S : Bs} (h : Star [rowA g e 1 n (xs.map enc)] w S) (hn : xs.length = n) (hok : ∀ x, x ∈ xs → ok x) (hb : n * by_ ≤ 140737488355328) (h63 : n ≤ 9223372036854775807) : (ownA (kslice e by_ (kscalar enc ok h1)) xs [.slice (some ⟨g, 0, none⟩) n n]).p w S := by
  subst hn
  have hfl : ∀ ys : List α, (ys.map fun x => [enc x]).flatten = ys.map enc := fun ys => by
    induction ys with
    | nil => rfl
    | cons x ys ih => simp only [List.map_cons, List.flatten_cons, ih]; rfl
  refine .inr ⟨g, xs.length, xs.map (fun x => [enc x]), rfl, Nat.le_refl _, h63, hb, by simp, S, fun _ => False, by rw [hfl]; exact h.head (c := rowA g e 1 xs.length (xs.map enc)), ?_, fun _ h => h, fun _ h => h.elim, fun _ _ h => h⟩
  clear hfl hb h63 h
  induction xs with
  | nil => trivial
  | cons x xs ih => exact ⟨fun _ => False, fun _ => False, ⟨rfl, hok x List.mem_cons_self⟩, ih (fun y hy => hok y (List.mem_cons_of_mem _ hy)), fun _ h => h.elim, fun _ h => h.elim, fun _ h => h.elim⟩
theorem nil_of {α : Type} {xs : List α} {A : Option Addr} {p : Addr → Prop} (h : 0 < xs.length → ∃ ad, A = some ad ∧ p ad) (hA : Option.isNone A = true) : ([] : List α) = xs := by
  cases xs with
  | nil => rfl
  | cons x xs => obtain ⟨ad, rfl, _⟩ := h (by simp); cases hA
theorem pre_at {fl cs : List Value} {k : Nat} (hk : cs.length = k) (h : fl.take k = cs) : ∀ (i : Nat) (u : Value), cs[i]? = some u → fl[i]? = some u := fun i u hu => by
  rw [← h, List.getElem?_take] at hu
  split at hu
  · exact hu
  · cases hu
end
end Go.Proofs.YtmejbfmhaoilmaaGreat
/- What is proved: marks as texts and bytes. No condition. -/
namespace Go.Proofs.YtmejbfmhaoilmaaGreat
open Go Go.RowKit
set_option linter.unusedVariables false
def mbyte (n : Int) : UInt8 := UInt8.ofNat (n % 256).toNat
theorem mbyte_wrap (n : Int) : IntKind.u8.wrap n = ((mbyte n).toNat : Int) := by
  rw [IntKind.wrap_u8]
  unfold mbyte
  rw [UInt8.toNat_ofNat']
  omega
theorem byte_eq {a b : UInt8} (h : (a.toNat : Int) = (b.toNat : Int)) : a = b := UInt8.toNat_inj.1 (Int.ofNat.inj h)
def bstr (xs : List UInt8) : ByteArray := ⟨xs.toArray⟩
end Go.Proofs.YtmejbfmhaoilmaaGreat
/- What is proved: bytes turned to a string; what is read, of a world behind. No condition. -/
namespace Go.Proofs.YtmejbfmhaoilmaaGreat
open Go Go.RowKit
set_option linter.unusedVariables false
set_option linter.unusedSimpArgs false
section
variable {P : Program} {T : Slots} {Wd : World → Prop} {o : Oper} {N : Nat} {w0 : World} {S0 : Bs} {l l' : List Asn}
theorem WS.roctx {α : Type} {K : Kd α} {x : α} {cs : List Value} (h : K.ro w0 (FF w0 S0) x cs) : ∀ w, WS w0 S0 l w → ∃ F : Bs, K.ro w F x cs := fun w hw => by
  obtain ⟨S, _, _, hf⟩ := hw
  exact ⟨_, K.ro_loc h (fun b hb => hf.block b hb.1 hb.2)⟩
theorem quo_nn {a b : Int} (ha : 0 ≤ a) (h : a ≤ 9223372036854775807) (hb : 0 < b) : IntKind.i64.wrap (a.tdiv b) = a / b := by
  rw [Int.tdiv_eq_ediv_of_nonneg ha]
  have h1 : 0 ≤ a / b := Int.ediv_nonneg ha (by omega)
  have h2 : a / b ≤ a := Int.ediv_le_self b ha
  exact wr rfl (by omega) (by omega)
theorem any_dec {α : Type} [DecidableEq α] (xs : List α) (v : α) : xs.any (fun x => decide (x = v)) = decide (v ∈ xs) := by
  rw [Bool.eq_iff_iff, List.any_eq_true, decide_eq_true_iff]
  exact ⟨fun ⟨x, hx, h⟩ => of_decide_eq_true h ▸ hx, fun h => ⟨v, h, decide_eq_true rfl⟩⟩
theorem bstr_inj {x y : List UInt8} : bstr x = bstr y ↔ x = y := ⟨fun h => by
  have := congrArg (fun s => s.data.toList) h
  simpa [bstr] using this, fun h => congrArg bstr h⟩
theorem bstr_of (xs : List UInt8) : ((xs.map fun b => (b.toNat : Int)).foldl (fun r n => r.push (UInt8.ofNat n.toNat)) ByteArray.empty) = bstr xs := by
  rw [foldl_push_bytes]
  simp only [List.map_map, bstr]
  congr 1
  simp only [ByteArray.empty, ByteArray.emptyWithCapacity]
  rw [show (Array.empty : Array UInt8) = #[] from rfl]
  simp [Function.comp_def]
theorem q_convBS {xs : List UInt8} {by_ : Nat} {s e d : TypeId} {x : Operand} {v : Value} (ho : o.op = .convert s d x) (hs : P.underlying s = some (.slice e)) (he : P.underlying e = some (.int .u8)) (hd : P.underlying d = some .string) (hx : Val T x v)
    (hr : ∀ w, Wd w → ∃ F : Bs, (kslice e by_ kbyte).ro w F xs [v]) : Quiet P o T Wd (.string (bstr xs)) := fun a w ha hw => by
  obtain ⟨F, hr⟩ := hr w hw
  obtain ⟨A, c, rfl, h1, h2, h3, h4⟩ := ro_form hr
  simp only [execOp, ho, hx a ha]
  have key : (convert s d (.slice A xs.length c)).run P w = .ok (.string (bstr xs)) w := by
    rw [run_convert_bytes_string w s d e _ _ c hs he hd]
    cases A with
    | none =>
      have : xs = [] := by
        cases xs with
        | nil => rfl
        | cons y ys => obtain ⟨ad, h, _⟩ := h4 (by simp); cases h
      subst this
      simp [Conv.bytesToString, bstr]
      rfl
    | some ad =>
      have hl : (loadCells ad xs.length).run P w = .ok ((xs.map fun b => (b.toNat : Int)).map (Value.int .u8)).toArray w := by
        have := run_loadCells_list (P := P) w ad ((xs.map fun b => (b.toNat : Int)).map (Value.int .u8)) (fun i u hu => by
          simp only [List.map_map, List.getElem?_map, Option.map_eq_some_iff, Function.comp] at hu
          obtain ⟨b, hb, rfl⟩ := hu
          have hp : 0 < xs.length := by have := (List.getElem?_eq_some_iff.1 hb).1; omega
          obtain ⟨ad', ha', hro⟩ := h4 hp
          obtain rfl := Option.some.inj ha'
          obtain ⟨ecs, ⟨rfl, _⟩, h6⟩ := hro.2 i b hb
          have := h6 0 _ rfl
          simpa [kbyte, kscalar] using this)
        simpa using this
      rw [run_bytesToString w ad _ c _ hl, bstr_of]
  simp [key]
theorem eqFs_nil {d : Nat} {xs ys : Array Value} (w : World) : (Op.eqFields d xs ys []).run P w = .ok true w := by simp [Op.eqFields]
theorem eqFs_cons {d : Nat} {xs ys : Array Value} {f : Field} {fs : List Field} {a b : Value} {r q : Bool} (hn : (f.name != "_") = true) (ha : ∀ w, (part f.type xs f.offset).run P w = .ok a w) (hb : ∀ w, (part f.type ys f.offset).run P w = .ok b w)
    (he : ∀ w, (Op.equalIn d f.type a b).run P w = .ok r w) (hr : ∀ w, (Op.eqFields d xs ys fs).run P w = .ok q w) (w : World) : (Op.eqFields d xs ys (f :: fs)).run P w = .ok (r && q) w := by
  have hn' : f.name ≠ "_" := by simpa using hn
  simp only [Op.eqFields]
  rw [if_pos hn']
  simp only [Sem.run_bind, ha, hb, he, Result.andThen_ok]
  cases r <;> simp [hr]
theorem beq_str (a b : ByteArray) : (a.toList == b.toList) = decide (a = b) := by
  rw [ByteArray.toList_eq, ByteArray.toList_eq, Bool.eq_iff_iff, beq_iff_eq, decide_eq_true_iff]
  constructor
  · intro h
    cases a
    cases b
    simp only [Array.toList_inj] at h
    rw [h]
  · rintro rfl; rfl
theorem beq_int (a b : Int) : (a == b) = decide (a = b) := beq_dec a b
theorem q_entneq {x y : Operand} {t t' : TypeId} {xs ys : Array Value} {b : Bool} (ho : o.op = .binOp .neq t x y t') (he : ∀ w, (Op.equalIn 10000 t (.agg xs) (.agg ys)).run P w = .ok b w) (hg : P.eqGuardType P.depth t = false) (hx : Val T x (.agg xs)) (hy : Val T y (.agg ys)) : Quiet P o T Wd (.bool (!b)) := fun a w ha _ => by
  simp only [execOp, ho, hx a ha, hy a ha]
  simp [run_eqGuard_agg w .neq t x y xs ys hg, run_neq_struct w, he w]
end
end Go.Proofs.YtmejbfmhaoilmaaGreat
/- What is proved: an argument that was read out of memory, of a kind: what the kind says holds of its cells. No condition. -/
namespace Go.Proofs.YtmejbfmhaoilmaaGreat
open Go Go.RowKit
set_option linter.unusedVariables false
set_option linter.unusedSimpArgs false
def InW (W : World) : Bs := fun b => b < W.heap.size
section
variable {H : Type} (enc : TypeId × Value → H) (P : Program) (W : World)
def Ko {α : Type} (t : TypeId) (K : Kd α) : Prop := ∀ (fuel : Nat) (cs : List Value) (x : DataW H × List MemPlace), DataW.trod enc P W 0 (fun _ => true) true fuel t cs = some x → (x.1.weights P t).all (· ≤ reachBytes) = true → ∃ y, K.ro W (InW W) y cs
def KoF {α : Type} (ps : List (TypeId × Nat)) (off : Nat) (K : Kd α) : Prop := ∀ (n : Nat) (cs : List Value) (xs : List (DataW H × List MemPlace)), off + K.sz ≤ cs.length → xs.length = ps.length →
  (∀ (i : Nat) (t : TypeId) (o : Nat), ps[i]? = some (t, o) → DataW.trod enc P W 0 (fun _ => true) true n t ((cs.drop o).take (P.cellsOf t)) = xs[i]?) → (DataW.weightsEach P (ps.map (·.1)) (xs.map (·.1))).all (· ≤ reachBytes) = true → ∃ y, K.ro W (InW W) y ((cs.drop off).take K.sz)
end
section
variable {H : Type} {enc : TypeId × Value → H} {P : Program} {W : World}
theorem Ko.int {t : TypeId} {k : IntKind} (ht : P.underlying t = some (.int k)) : Ko enc P W t (kint k) := fun fuel cs x h _ => by
  obtain ⟨n, rfl, _, _⟩ := DataW.trod_int ht h
  exact ⟨n, rfl, trivial⟩
theorem Ko.bool {t : TypeId} (ht : P.underlying t = some .bool) : Ko enc P W t kbool := fun fuel cs x h _ => by
  obtain ⟨n, rfl, _⟩ := DataW.trod_bool ht h
  exact ⟨n, rfl, trivial⟩
theorem Ko.byte {t : TypeId} (ht : P.underlying t = some (.int .u8)) : Ko enc P W t kbyte := fun fuel cs x h _ => by
  obtain ⟨n, rfl, _, hw⟩ := DataW.trod_int ht h
  have hn : 0 ≤ n ∧ n < 256 := by
    have h1 := of_decide_eq_true (Bool.and_eq_true_iff.1 (show (decide (IntKind.min .u8 ≤ n) && decide (n ≤ IntKind.max .u8)) = true from hw)).1
    have h2 := of_decide_eq_true (Bool.and_eq_true_iff.1 (show (decide (IntKind.min .u8 ≤ n) && decide (n ≤ IntKind.max .u8)) = true from hw)).2
    have e1 : IntKind.min .u8 = 0 := by decide
    have e2 : IntKind.max .u8 = 255 := by decide
    omega
  refine ⟨UInt8.ofNat n.toNat, ?_, trivial⟩
  have : ((UInt8.ofNat n.toNat).toNat : Int) = n := by
    rw [UInt8.toNat_ofNat']; omega
  show [Value.int .u8 n] = [Value.int .u8 ((UInt8.ofNat n.toNat).toNat : Int)]
  rw [this]
theorem list_ofG {β : Type} {p : Nat → β → Prop} : ∀ n, (∀ j, j < n → ∃ c, p j c) → ∃ css : List β, css.length = n ∧ ∀ j c, css[j]? = some c → p j c
  | 0, _ => ⟨[], rfl, by simp⟩
  | n + 1, h => by
    obtain ⟨css, h1, h2⟩ := list_ofG n (fun j hj => h j (by omega))
    obtain ⟨c, hc⟩ := h n (by omega)
    refine ⟨css ++ [c], by simp [h1], fun j d hd => ?_⟩
    rw [List.getElem?_append] at hd
    split at hd
    · exact h2 j d hd
    · rename_i hj
      have : j - css.length = 0 := by
        have := (List.getElem?_eq_some_iff.1 hd).1
        simp at this; omega
      have e : j = n := by omega
      subst e
      rw [h1] at hd
      simp at hd
      subst hd
      exact hc
theorem weightsAll_mem {e : TypeId} : ∀ {ds : List (DataW H)} {d : DataW H}, d ∈ ds → (DataW.weightsAll P e ds).all (· ≤ reachBytes) = true → (d.weights P e).all (· ≤ reachBytes) = true
  | d0 :: ds, d, hd, h => by
    simp only [DataW.weightsAll, List.all_append, Bool.and_eq_true] at h
    rcases List.mem_cons.1 hd with rfl | hd
    · exact h.1
    · exact weightsAll_mem hd h.2
  | [], d, hd, _ => by cases hd
theorem Ko.slice {α : Type} {K : Kd α} {t e : TypeId} {by_ : Nat} (ht : P.underlying t = some (.slice e)) (hc : P.cellsOf e = K.sz) (hb : P.bytesOf e = by_) (hK : Ko enc P W e K) : Ko enc P W t (kslice e by_ K) := fun fuel cs x h hw => by
  rcases DataW.trod_slice ht h with ⟨rfl, rfl⟩ | ⟨a, len, cap, elems, rest, n, rfl, rfl, rfl, hb0, hl, hm, hlen, hel, hsp, _⟩
  · exact ⟨[], ro_nil⟩
  · simp only [DataW.weights, ht, List.all_cons, List.all_append, Bool.and_eq_true, decide_eq_true_eq, List.length_map] at hw
    obtain ⟨hw1, hw2, _⟩ := hw
    rw [hb] at hw1
    have each : ∀ j, j < len → ∃ y, ∃ ecs, K.ro W (InW W) y ecs ∧ InW W a.block ∧ ∀ i u, ecs[i]? = some u → W.cell? (a.add (j * K.sz + i)) = some u := by
      intro j hj
      have h1 := hel j hj
      rw [List.getElem?_eq_getElem (by omega), Option.bind_eq_some_iff] at h1
      obtain ⟨ecs, h2, h3⟩ := h1
      obtain ⟨y, hy⟩ := hK n ecs _ h3 (weightsAll_mem (List.mem_map.2 ⟨_, List.getElem_mem _, rfl⟩) hw2)
      obtain ⟨_, hlen2, hcells⟩ := World.cells?_some h2
      have hsz := K.ro_len hy
      have hcell : ∀ i u, ecs[i]? = some u → W.cell? (a.add (j * K.sz + i)) = some u := fun i u hu => by
        have hi : i < P.cellsOf e := by have := (List.getElem?_eq_some_iff.1 hu).1; omega
        have := hcells i hi
        rw [add_add, hc] at this
        rw [this, hu]
      refine ⟨y, ecs, hy, ?_, hcell⟩
      have hpos := K.pos
      have h0 := hcell 0 ecs[0] (List.getElem?_eq_getElem (by omega))
      unfold World.cell? at h0
      rw [add_block] at h0
      unfold InW
      cases hh : W.heap[a.block]? with
      | none => rw [hh] at h0; simp at h0
      | some b => exact (Array.getElem?_eq_some_iff.1 hh).1
    obtain ⟨xs, hxl, hxs⟩ := list_ofG len each
    refine ⟨xs, some a, cap, by rw [hxl], by rw [hxl]; exact hl, hm, ?_, fun hp => ⟨a, rfl, ?_, fun j y hy => ?_⟩⟩
    · have : xs.length * by_ ≤ (elems.length + rest.length) * by_ := Nat.mul_le_mul_right _ (by omega)
      unfold reachBytes at hw1
      omega
    · obtain ⟨ecs, _, h, _⟩ := hxs 0 _ (List.getElem?_eq_getElem hp)
      exact h
    · obtain ⟨ecs, h1, _, h2⟩ := hxs j y hy
      exact ⟨ecs, h1, h2⟩
theorem KoF.one {α : Type} {K : Kd α} {t : TypeId} {off : Nat} (hc : P.cellsOf t = K.sz) (h : Ko enc P W t K) : KoF enc P W [(t, off)] off K := fun n cs xs hl hx hf hw => by
  have h0 := hf 0 t off rfl
  rw [List.getElem?_eq_getElem (by simp at hx; omega), hc] at h0
  refine h n _ _ h0 ?_
  match xs, hx with
  | [x], _ =>
    simp only [List.map_cons, List.map_nil, DataW.weightsEach, List.append_nil] at hw
    exact hw
theorem KoF.cons {α β : Type} {A : Kd α} {B : Kd β} {t : TypeId} {ps : List (TypeId × Nat)} {off off' : Nat} (hc : P.cellsOf t = A.sz) (ho : off + A.sz = off') (h : Ko enc P W t A) (hs : KoF enc P W ps off' B) : KoF enc P W ((t, off) :: ps) off (kpair A B) := fun n cs xs hl hx hf hw => by
  subst ho
  have hsz : (kpair A B).sz = A.sz + B.sz := rfl
  match xs, hx with
  | x :: xs, hx =>
    simp only [List.map_cons, DataW.weightsEach, List.all_append, Bool.and_eq_true] at hw
    have h0 := hf 0 t off rfl
    rw [List.getElem?_cons_zero, hc] at h0
    obtain ⟨y1, hy1⟩ := h n _ _ h0 hw.1
    obtain ⟨y2, hy2⟩ := hs n cs xs (by rw [hsz] at hl; omega) (by simpa using hx) (fun i t' o' hi => by have := hf (i + 1) t' o' (by simpa using hi); simpa using this) hw.2
    refine ⟨(y1, y2), _, _, ?_, hy1, hy2⟩
    rw [hsz, List.take_add, List.drop_drop]
theorem Ko.struct {α β : Type} {K : Kd α} {t : TypeId} {fs : Array Field} {ps : List (TypeId × Nat)} {g : β → α} (ht : P.underlying t = some (.struct fs)) (hps : fs.toList.map (fun f => (f.type, f.offset)) = ps) (hc : P.cellsOf t = K.sz) (hF : KoF enc P W ps 0 K) (inv : α → β) (hg : ∀ y, g (inv y) = y) : Ko enc P W t (kiso K g) := fun fuel cs x h hw => by
  obtain ⟨xs, n, rfl, rfl, hl, hx, hf⟩ := DataW.trod_struct ht h
  subst hps
  have hw' : (DataW.weightsEach P ((fs.toList.map (fun f => (f.type, f.offset))).map (·.1)) (xs.map (·.1))).all (· ≤ reachBytes) = true := by
    simp only [DataW.weights, ht] at hw
    rw [List.map_map]
    exact hw
  obtain ⟨y, hy⟩ := hF n cs xs (by omega) (by simp [hx]) (fun i t' o hi => by
    simp only [List.getElem?_map, Option.map_eq_some_iff] at hi
    obtain ⟨f, h1, h2⟩ := hi
    obtain ⟨rfl, rfl⟩ := Prod.mk.inj h2
    exact hf i f (by simpa using h1)) hw'
  refine ⟨inv y, ?_⟩
  show K.ro W (InW W) (g (inv y)) cs
  rw [hg]
  have : (cs.drop 0).take K.sz = cs := by rw [List.drop_zero, List.take_of_length_le (by omega)]
  rwa [this] at hy
theorem Ko.arg {α : Type} {K : Kd α} {t : TypeId} {v : Value} {d : DataW H} {p : List MemPlace} (h : Ko enc P W t K) (hd : DataW.Trod enc P W 0 (fun _ => true) true t v d p) (hw : (d.weights P t).all (· ≤ reachBytes) = true) : ∃ y, K.ro W (FF W (fun _ => False)) y v.cells.toList := by
  obtain ⟨fuel, hf⟩ := hd
  obtain ⟨y, hy⟩ := h fuel _ (d, p) hf hw
  exact ⟨y, K.ro_up hy (fun b hb => ⟨hb, fun h => h⟩)⟩
theorem Ko.argV {α : Type} {K : Kd α} {t : TypeId} {v : Value} {d : DataW H} {p : List MemPlace} (h : Ko enc P W t K) (hd : DataW.Trod enc P W 0 (fun _ => true) true t v d p) (hw : (d.weights P t).all (· ≤ reachBytes) = true) (ho : ∃ A n c, v = .slice A n c) : ∃ y, K.ro W (FF W (fun _ => False)) y [v] := by
  obtain ⟨A, n, c, rfl⟩ := ho
  exact h.arg hd hw
theorem each_cons {t : TypeId} {ts : List TypeId} {d : DataW H} {ds : List (DataW H)} (h : (DataW.weightsEach P (t :: ts) (d :: ds)).all (· ≤ reachBytes) = true) : (d.weights P t).all (· ≤ reachBytes) = true ∧ (DataW.weightsEach P ts ds).all (· ≤ reachBytes) = true := by
  simp only [DataW.weightsEach, List.all_append, Bool.and_eq_true] at h
  exact h
end
theorem law_end {P : Program} {f : FuncId} {args : Array Value} {W : World} (h : Calls P f args W (TriPost W (fun _ => False) (fun r l => r = .bool true ∧ l = []))) : Calls P f args W (fun e W' => e = .returned (.bool true) ∧ Below W.heap.size W W') :=
  h.mono fun e W' ⟨r, l, he, ⟨hr, _⟩, ⟨S, _, _, hf⟩⟩ => by
    subst hr
    exact ⟨he, hf.below⟩
end Go.Proofs.YtmejbfmhaoilmaaGreat
/- What is proved: short names of the rules that walks use most. No condition. -/
namespace Go.Proofs.YtmejbfmhaoilmaaGreat
open Go Go.RowKit
set_option linter.unusedVariables false
theorem Get.g1 {α : Type} {q0 p : α} {l : List α} : Get (q0 :: p :: l) p := .s .z
theorem Er.g1 {α : Type} {q0 p : α} {l : List α} : Er (q0 :: p :: l) p (q0 :: l) := .s .z
theorem Take.g1 {q0 p : Asn} {l : List Asn} : Take (q0 :: p :: l) p (q0 :: l) := .s .z
theorem Sb.g1 {q0 : Asn} {l : List Asn} : Sb (q0 :: l) l := .s .z
theorem Set1.g1 {q0 u v : Value} {l : List Value} : Set1 (q0 :: u :: l) 1 v (q0 :: v :: l) := .s .z
theorem Get.g2 {α : Type} {q0 q1 p : α} {l : List α} : Get (q0 :: q1 :: p :: l) p := .s (.s .z)
theorem Er.g2 {α : Type} {q0 q1 p : α} {l : List α} : Er (q0 :: q1 :: p :: l) p (q0 :: q1 :: l) := .s (.s .z)
theorem Take.g2 {q0 q1 p : Asn} {l : List Asn} : Take (q0 :: q1 :: p :: l) p (q0 :: q1 :: l) := .s (.s .z)
theorem Sb.g2 {q0 q1 : Asn} {l : List Asn} : Sb (q0 :: q1 :: l) l := .s (.s .z)
theorem Set1.g2 {q0 q1 u v : Value} {l : List Value} : Set1 (q0 :: q1 :: u :: l) 2 v (q0 :: q1 :: v :: l) := .s (.s .z)
theorem Get.g3 {α : Type} {q0 q1 q2 p : α} {l : List α} : Get (q0 :: q1 :: q2 :: p :: l) p := .s (.s (.s .z))
theorem Er.g3 {α : Type} {q0 q1 q2 p : α} {l : List α} : Er (q0 :: q1 :: q2 :: p :: l) p (q0 :: q1 :: q2 :: l) := .s (.s (.s .z))
theorem Take.g3 {q0 q1 q2 p : Asn} {l : List Asn} : Take (q0 :: q1 :: q2 :: p :: l) p (q0 :: q1 :: q2 :: l) := .s (.s (.s .z))
theorem Sb.g3 {q0 q1 q2 : Asn} {l : List Asn} : Sb (q0 :: q1 :: q2 :: l) l := .s (.s (.s .z))
theorem Set1.g3 {q0 q1 q2 u v : Value} {l : List Value} : Set1 (q0 :: q1 :: q2 :: u :: l) 3 v (q0 :: q1 :: q2 :: v :: l) := .s (.s (.s .z))
theorem Get.g4 {α : Type} {q0 q1 q2 q3 p : α} {l : List α} : Get (q0 :: q1 :: q2 :: q3 :: p :: l) p := .s (.s (.s (.s .z)))
theorem Er.g4 {α : Type} {q0 q1 q2 q3 p : α} {l : List α} : Er (q0 :: q1 :: q2 :: q3 :: p :: l) p (q0 :: q1 :: q2 :: q3 :: l) := .s (.s (.s (.s .z)))
theorem Take.g4 {q0 q1 q2 q3 p : Asn} {l : List Asn} : Take (q0 :: q1 :: q2 :: q3 :: p :: l) p (q0 :: q1 :: q2 :: q3 :: l) := .s (.s (.s (.s .z)))
theorem Sb.g4 {q0 q1 q2 q3 : Asn} {l : List Asn} : Sb (q0 :: q1 :: q2 :: q3 :: l) l := .s (.s (.s (.s .z)))
theorem Set1.g4 {q0 q1 q2 q3 u v : Value} {l : List Value} : Set1 (q0 :: q1 :: q2 :: q3 :: u :: l) 4 v (q0 :: q1 :: q2 :: q3 :: v :: l) := .s (.s (.s (.s .z)))
theorem Get.g5 {α : Type} {q0 q1 q2 q3 q4 p : α} {l : List α} : Get (q0 :: q1 :: q2 :: q3 :: q4 :: p :: l) p := .s (.s (.s (.s (.s .z))))
theorem Er.g5 {α : Type} {q0 q1 q2 q3 q4 p : α} {l : List α} : Er (q0 :: q1 :: q2 :: q3 :: q4 :: p :: l) p (q0 :: q1 :: q2 :: q3 :: q4 :: l) := .s (.s (.s (.s (.s .z))))
theorem Take.g5 {q0 q1 q2 q3 q4 p : Asn} {l : List Asn} : Take (q0 :: q1 :: q2 :: q3 :: q4 :: p :: l) p (q0 :: q1 :: q2 :: q3 :: q4 :: l) := .s (.s (.s (.s (.s .z))))
theorem Sb.g5 {q0 q1 q2 q3 q4 : Asn} {l : List Asn} : Sb (q0 :: q1 :: q2 :: q3 :: q4 :: l) l := .s (.s (.s (.s (.s .z))))
theorem Set1.g5 {q0 q1 q2 q3 q4 u v : Value} {l : List Value} : Set1 (q0 :: q1 :: q2 :: q3 :: q4 :: u :: l) 5 v (q0 :: q1 :: q2 :: q3 :: q4 :: v :: l) := .s (.s (.s (.s (.s .z))))
theorem Get.g6 {α : Type} {q0 q1 q2 q3 q4 q5 p : α} {l : List α} : Get (q0 :: q1 :: q2 :: q3 :: q4 :: q5 :: p :: l) p := .s (.s (.s (.s (.s (.s .z)))))
theorem Er.g6 {α : Type} {q0 q1 q2 q3 q4 q5 p : α} {l : List α} : Er (q0 :: q1 :: q2 :: q3 :: q4 :: q5 :: p :: l) p (q0 :: q1 :: q2 :: q3 :: q4 :: q5 :: l) := .s (.s (.s (.s (.s (.s .z)))))
theorem Take.g6 {q0 q1 q2 q3 q4 q5 p : Asn} {l : List Asn} : Take (q0 :: q1 :: q2 :: q3 :: q4 :: q5 :: p :: l) p (q0 :: q1 :: q2 :: q3 :: q4 :: q5 :: l) := .s (.s (.s (.s (.s (.s .z)))))
theorem Sb.g6 {q0 q1 q2 q3 q4 q5 : Asn} {l : List Asn} : Sb (q0 :: q1 :: q2 :: q3 :: q4 :: q5 :: l) l := .s (.s (.s (.s (.s (.s .z)))))
theorem Set1.g6 {q0 q1 q2 q3 q4 q5 u v : Value} {l : List Value} : Set1 (q0 :: q1 :: q2 :: q3 :: q4 :: q5 :: u :: l) 6 v (q0 :: q1 :: q2 :: q3 :: q4 :: q5 :: v :: l) := .s (.s (.s (.s (.s (.s .z)))))
theorem Get.g7 {α : Type} {q0 q1 q2 q3 q4 q5 q6 p : α} {l : List α} : Get (q0 :: q1 :: q2 :: q3 :: q4 :: q5 :: q6 :: p :: l) p := .s (.s (.s (.s (.s (.s (.s .z))))))
theorem Er.g7 {α : Type} {q0 q1 q2 q3 q4 q5 q6 p : α} {l : List α} : Er (q0 :: q1 :: q2 :: q3 :: q4 :: q5 :: q6 :: p :: l) p (q0 :: q1 :: q2 :: q3 :: q4 :: q5 :: q6 :: l) := .s (.s (.s (.s (.s (.s (.s .z))))))
theorem Take.g7 {q0 q1 q2 q3 q4 q5 q6 p : Asn} {l : List Asn} : Take (q0 :: q1 :: q2 :: q3 :: q4 :: q5 :: q6 :: p :: l) p (q0 :: q1 :: q2 :: q3 :: q4 :: q5 :: q6 :: l) := .s (.s (.s (.s (.s (.s (.s .z))))))
theorem Sb.g7 {q0 q1 q2 q3 q4 q5 q6 : Asn} {l : List Asn} : Sb (q0 :: q1 :: q2 :: q3 :: q4 :: q5 :: q6 :: l) l := .s (.s (.s (.s (.s (.s (.s .z))))))
theorem Set1.g7 {q0 q1 q2 q3 q4 q5 q6 u v : Value} {l : List Value} : Set1 (q0 :: q1 :: q2 :: q3 :: q4 :: q5 :: q6 :: u :: l) 7 v (q0 :: q1 :: q2 :: q3 :: q4 :: q5 :: q6 :: v :: l) := .s (.s (.s (.s (.s (.s (.s .z))))))
theorem Get.g8 {α : Type} {q0 q1 q2 q3 q4 q5 q6 q7 p : α} {l : List α} : Get (q0 :: q1 :: q2 :: q3 :: q4 :: q5 :: q6 :: q7 :: p :: l) p := .s (.s (.s (.s (.s (.s (.s (.s .z)))))))
theorem Er.g8 {α : Type} {q0 q1 q2 q3 q4 q5 q6 q7 p : α} {l : List α} : Er (q0 :: q1 :: q2 :: q3 :: q4 :: q5 :: q6 :: q7 :: p :: l) p (q0 :: q1 :: q2 :: q3 :: q4 :: q5 :: q6 :: q7 :: l) := .s (.s (.s (.s (.s (.s (.s (.s .z)))))))
theorem Take.g8 {q0 q1 q2 q3 q4 q5 q6 q7 p : Asn} {l : List Asn} : Take (q0 :: q1 :: q2 :: q3 :: q4 :: q5 :: q6 :: q7 :: p :: l) p (q0 :: q1 :: q2 :: q3 :: q4 :: q5 :: q6 :: q7 :: l) := .s (.s (.s (.s (.s (.s (.s (.s .z)))))))
theorem Sb.g8 {q0 q1 q2 q3 q4 q5 q6 q7 : Asn} {l : List Asn} : Sb (q0 :: q1 :: q2 :: q3 :: q4 :: q5 :: q6 :: q7 :: l) l := .s (.s (.s (.s (.s (.s (.s (.s .z)))))))
theorem Set1.g8 {q0 q1 q2 q3 q4 q5 q6 q7 u v : Value} {l : List Value} : Set1 (q0 :: q1 :: q2 :: q3 :: q4 :: q5 :: q6 :: q7 :: u :: l) 8 v (q0 :: q1 :: q2 :: q3 :: q4 :: q5 :: q6 :: q7 :: v :: l) := .s (.s (.s (.s (.s (.s (.s (.s .z)))))))
theorem Get.g9 {α : Type} {q0 q1 q2 q3 q4 q5 q6 q7 q8 p : α} {l : List α} : Get (q0 :: q1 :: q2 :: q3 :: q4 :: q5 :: q6 :: q7 :: q8 :: p :: l) p := .s (.s (.s (.s (.s (.s (.s (.s (.s .z))))))))
theorem Er.g9 {α : Type} {q0 q1 q2 q3 q4 q5 q6 q7 q8 p : α} {l : List α} : Er (q0 :: q1 :: q2 :: q3 :: q4 :: q5 :: q6 :: q7 :: q8 :: p :: l) p (q0 :: q1 :: q2 :: q3 :: q4 :: q5 :: q6 :: q7 :: q8 :: l) := .s (.s (.s (.s (.s (.s (.s (.s (.s .z))))))))
theorem Take.g9 {q0 q1 q2 q3 q4 q5 q6 q7 q8 p : Asn} {l : List Asn} : Take (q0 :: q1 :: q2 :: q3 :: q4 :: q5 :: q6 :: q7 :: q8 :: p :: l) p (q0 :: q1 :: q2 :: q3 :: q4 :: q5 :: q6 :: q7 :: q8 :: l) := .s (.s (.s (.s (.s (.s (.s (.s (.s .z))))))))
theorem Sb.g9 {q0 q1 q2 q3 q4 q5 q6 q7 q8 : Asn} {l : List Asn} : Sb (q0 :: q1 :: q2 :: q3 :: q4 :: q5 :: q6 :: q7 :: q8 :: l) l := .s (.s (.s (.s (.s (.s (.s (.s (.s .z))))))))
theorem Get.g10 {α : Type} {q0 q1 q2 q3 q4 q5 q6 q7 q8 q9 p : α} {l : List α} : Get (q0 :: q1 :: q2 :: q3 :: q4 :: q5 :: q6 :: q7 :: q8 :: q9 :: p :: l) p := .s (.s (.s (.s (.s (.s (.s (.s (.s (.s .z)))))))))
theorem Er.g10 {α : Type} {q0 q1 q2 q3 q4 q5 q6 q7 q8 q9 p : α} {l : List α} : Er (q0 :: q1 :: q2 :: q3 :: q4 :: q5 :: q6 :: q7 :: q8 :: q9 :: p :: l) p (q0 :: q1 :: q2 :: q3 :: q4 :: q5 :: q6 :: q7 :: q8 :: q9 :: l) := .s (.s (.s (.s (.s (.s (.s (.s (.s (.s .z)))))))))
theorem Take.g10 {q0 q1 q2 q3 q4 q5 q6 q7 q8 q9 p : Asn} {l : List Asn} : Take (q0 :: q1 :: q2 :: q3 :: q4 :: q5 :: q6 :: q7 :: q8 :: q9 :: p :: l) p (q0 :: q1 :: q2 :: q3 :: q4 :: q5 :: q6 :: q7 :: q8 :: q9 :: l) := .s (.s (.s (.s (.s (.s (.s (.s (.s (.s .z)))))))))
theorem Sb.g10 {q0 q1 q2 q3 q4 q5 q6 q7 q8 q9 : Asn} {l : List Asn} : Sb (q0 :: q1 :: q2 :: q3 :: q4 :: q5 :: q6 :: q7 :: q8 :: q9 :: l) l := .s (.s (.s (.s (.s (.s (.s (.s (.s (.s .z)))))))))
theorem Get.g11 {α : Type} {q0 q1 q2 q3 q4 q5 q6 q7 q8 q9 q10 p : α} {l : List α} : Get (q0 :: q1 :: q2 :: q3 :: q4 :: q5 :: q6 :: q7 :: q8 :: q9 :: q10 :: p :: l) p := .s (.s (.s (.s (.s (.s (.s (.s (.s (.s (.s .z))))))))))
theorem Er.g11 {α : Type} {q0 q1 q2 q3 q4 q5 q6 q7 q8 q9 q10 p : α} {l : List α} : Er (q0 :: q1 :: q2 :: q3 :: q4 :: q5 :: q6 :: q7 :: q8 :: q9 :: q10 :: p :: l) p (q0 :: q1 :: q2 :: q3 :: q4 :: q5 :: q6 :: q7 :: q8 :: q9 :: q10 :: l) := .s (.s (.s (.s (.s (.s (.s (.s (.s (.s (.s .z))))))))))
theorem Take.g11 {q0 q1 q2 q3 q4 q5 q6 q7 q8 q9 q10 p : Asn} {l : List Asn} : Take (q0 :: q1 :: q2 :: q3 :: q4 :: q5 :: q6 :: q7 :: q8 :: q9 :: q10 :: p :: l) p (q0 :: q1 :: q2 :: q3 :: q4 :: q5 :: q6 :: q7 :: q8 :: q9 :: q10 :: l) := .s (.s (.s (.s (.s (.s (.s (.s (.s (.s (.s .z))))))))))
theorem Sb.g11 {q0 q1 q2 q3 q4 q5 q6 q7 q8 q9 q10 : Asn} {l : List Asn} : Sb (q0 :: q1 :: q2 :: q3 :: q4 :: q5 :: q6 :: q7 :: q8 :: q9 :: q10 :: l) l := .s (.s (.s (.s (.s (.s (.s (.s (.s (.s (.s .z))))))))))
theorem Get.g12 {α : Type} {q0 q1 q2 q3 q4 q5 q6 q7 q8 q9 q10 q11 p : α} {l : List α} : Get (q0 :: q1 :: q2 :: q3 :: q4 :: q5 :: q6 :: q7 :: q8 :: q9 :: q10 :: q11 :: p :: l) p := .s (.s (.s (.s (.s (.s (.s (.s (.s (.s (.s (.s .z)))))))))))
theorem Er.g12 {α : Type} {q0 q1 q2 q3 q4 q5 q6 q7 q8 q9 q10 q11 p : α} {l : List α} : Er (q0 :: q1 :: q2 :: q3 :: q4 :: q5 :: q6 :: q7 :: q8 :: q9 :: q10 :: q11 :: p :: l) p (q0 :: q1 :: q2 :: q3 :: q4 :: q5 :: q6 :: q7 :: q8 :: q9 :: q10 :: q11 :: l) := .s (.s (.s (.s (.s (.s (.s (.s (.s (.s (.s (.s .z)))))))))))
theorem Take.g12 {q0 q1 q2 q3 q4 q5 q6 q7 q8 q9 q10 q11 p : Asn} {l : List Asn} : Take (q0 :: q1 :: q2 :: q3 :: q4 :: q5 :: q6 :: q7 :: q8 :: q9 :: q10 :: q11 :: p :: l) p (q0 :: q1 :: q2 :: q3 :: q4 :: q5 :: q6 :: q7 :: q8 :: q9 :: q10 :: q11 :: l) := .s (.s (.s (.s (.s (.s (.s (.s (.s (.s (.s (.s .z)))))))))))
theorem Sb.g12 {q0 q1 q2 q3 q4 q5 q6 q7 q8 q9 q10 q11 : Asn} {l : List Asn} : Sb (q0 :: q1 :: q2 :: q3 :: q4 :: q5 :: q6 :: q7 :: q8 :: q9 :: q10 :: q11 :: l) l := .s (.s (.s (.s (.s (.s (.s (.s (.s (.s (.s (.s .z)))))))))))
theorem Get.g13 {α : Type} {q0 q1 q2 q3 q4 q5 q6 q7 q8 q9 q10 q11 q12 p : α} {l : List α} : Get (q0 :: q1 :: q2 :: q3 :: q4 :: q5 :: q6 :: q7 :: q8 :: q9 :: q10 :: q11 :: q12 :: p :: l) p := .s (.s (.s (.s (.s (.s (.s (.s (.s (.s (.s (.s (.s .z))))))))))))
theorem Er.g13 {α : Type} {q0 q1 q2 q3 q4 q5 q6 q7 q8 q9 q10 q11 q12 p : α} {l : List α} : Er (q0 :: q1 :: q2 :: q3 :: q4 :: q5 :: q6 :: q7 :: q8 :: q9 :: q10 :: q11 :: q12 :: p :: l) p (q0 :: q1 :: q2 :: q3 :: q4 :: q5 :: q6 :: q7 :: q8 :: q9 :: q10 :: q11 :: q12 :: l) := .s (.s (.s (.s (.s (.s (.s (.s (.s (.s (.s (.s (.s .z))))))))))))
theorem Take.g13 {q0 q1 q2 q3 q4 q5 q6 q7 q8 q9 q10 q11 q12 p : Asn} {l : List Asn} : Take (q0 :: q1 :: q2 :: q3 :: q4 :: q5 :: q6 :: q7 :: q8 :: q9 :: q10 :: q11 :: q12 :: p :: l) p (q0 :: q1 :: q2 :: q3 :: q4 :: q5 :: q6 :: q7 :: q8 :: q9 :: q10 :: q11 :: q12 :: l) := .s (.s (.s (.s (.s (.s (.s (.s (.s (.s (.s (.s (.s .z))))))))))))
theorem Sb.g13 {q0 q1 q2 q3 q4 q5 q6 q7 q8 q9 q10 q11 q12 : Asn} {l : List Asn} : Sb (q0 :: q1 :: q2 :: q3 :: q4 :: q5 :: q6 :: q7 :: q8 :: q9 :: q10 :: q11 :: q12 :: l) l := .s (.s (.s (.s (.s (.s (.s (.s (.s (.s (.s (.s (.s .z))))))))))))
theorem Get.g14 {α : Type} {q0 q1 q2 q3 q4 q5 q6 q7 q8 q9 q10 q11 q12 q13 p : α} {l : List α} : Get (q0 :: q1 :: q2 :: q3 :: q4 :: q5 :: q6 :: q7 :: q8 :: q9 :: q10 :: q11 :: q12 :: q13 :: p :: l) p := .s (.s (.s (.s (.s (.s (.s (.s (.s (.s (.s (.s (.s (.s .z)))))))))))))
theorem Er.g14 {α : Type} {q0 q1 q2 q3 q4 q5 q6 q7 q8 q9 q10 q11 q12 q13 p : α} {l : List α} : Er (q0 :: q1 :: q2 :: q3 :: q4 :: q5 :: q6 :: q7 :: q8 :: q9 :: q10 :: q11 :: q12 :: q13 :: p :: l) p (q0 :: q1 :: q2 :: q3 :: q4 :: q5 :: q6 :: q7 :: q8 :: q9 :: q10 :: q11 :: q12 :: q13 :: l) := .s (.s (.s (.s (.s (.s (.s (.s (.s (.s (.s (.s (.s (.s .z)))))))))))))
theorem Take.g14 {q0 q1 q2 q3 q4 q5 q6 q7 q8 q9 q10 q11 q12 q13 p : Asn} {l : List Asn} : Take (q0 :: q1 :: q2 :: q3 :: q4 :: q5 :: q6 :: q7 :: q8 :: q9 :: q10 :: q11 :: q12 :: q13 :: p :: l) p (q0 :: q1 :: q2 :: q3 :: q4 :: q5 :: q6 :: q7 :: q8 :: q9 :: q10 :: q11 :: q12 :: q13 :: l) := .s (.s (.s (.s (.s (.s (.s (.s (.s (.s (.s (.s (.s (.s .z)))))))))))))
theorem Sb.g14 {q0 q1 q2 q3 q4 q5 q6 q7 q8 q9 q10 q11 q12 q13 : Asn} {l : List Asn} : Sb (q0 :: q1 :: q2 :: q3 :: q4 :: q5 :: q6 :: q7 :: q8 :: q9 :: q10 :: q11 :: q12 :: q13 :: l) l := .s (.s (.s (.s (.s (.s (.s (.s (.s (.s (.s (.s (.s (.s .z)))))))))))))
theorem Get.g15 {α : Type} {q0 q1 q2 q3 q4 q5 q6 q7 q8 q9 q10 q11 q12 q13 q14 p : α} {l : List α} : Get (q0 :: q1 :: q2 :: q3 :: q4 :: q5 :: q6 :: q7 :: q8 :: q9 :: q10 :: q11 :: q12 :: q13 :: q14 :: p :: l) p := .s (.s (.s (.s (.s (.s (.s (.s (.s (.s (.s (.s (.s (.s (.s .z))))))))))))))
theorem Er.g15 {α : Type} {q0 q1 q2 q3 q4 q5 q6 q7 q8 q9 q10 q11 q12 q13 q14 p : α} {l : List α} : Er (q0 :: q1 :: q2 :: q3 :: q4 :: q5 :: q6 :: q7 :: q8 :: q9 :: q10 :: q11 :: q12 :: q13 :: q14 :: p :: l) p (q0 :: q1 :: q2 :: q3 :: q4 :: q5 :: q6 :: q7 :: q8 :: q9 :: q10 :: q11 :: q12 :: q13 :: q14 :: l) := .s (.s (.s (.s (.s (.s (.s (.s (.s (.s (.s (.s (.s (.s (.s .z))))))))))))))
theorem Take.g15 {q0 q1 q2 q3 q4 q5 q6 q7 q8 q9 q10 q11 q12 q13 q14 p : Asn} {l : List Asn} : Take (q0 :: q1 :: q2 :: q3 :: q4 :: q5 :: q6 :: q7 :: q8 :: q9 :: q10 :: q11 :: q12 :: q13 :: q14 :: p :: l) p (q0 :: q1 :: q2 :: q3 :: q4 :: q5 :: q6 :: q7 :: q8 :: q9 :: q10 :: q11 :: q12 :: q13 :: q14 :: l) := .s (.s (.s (.s (.s (.s (.s (.s (.s (.s (.s (.s (.s (.s (.s .z))))))))))))))
theorem Sb.g15 {q0 q1 q2 q3 q4 q5 q6 q7 q8 q9 q10 q11 q12 q13 q14 : Asn} {l : List Asn} : Sb (q0 :: q1 :: q2 :: q3 :: q4 :: q5 :: q6 :: q7 :: q8 :: q9 :: q10 :: q11 :: q12 :: q13 :: q14 :: l) l := .s (.s (.s (.s (.s (.s (.s (.s (.s (.s (.s (.s (.s (.s (.s .z))))))))))))))
theorem Get.g16 {α : Type} {q0 q1 q2 q3 q4 q5 q6 q7 q8 q9 q10 q11 q12 q13 q14 q15 p : α} {l : List α} : Get (q0 :: q1 :: q2 :: q3 :: q4 :: q5 :: q6 :: q7 :: q8 :: q9 :: q10 :: q11 :: q12 :: q13 :: q14 :: q15 :: p :: l) p := .s (.s (.s (.s (.s (.s (.s (.s (.s (.s (.s (.s (.s (.s (.s (.s .z)))))))))))))))
theorem Er.g16 {α : Type} {q0 q1 q2 q3 q4 q5 q6 q7 q8 q9 q10 q11 q12 q13 q14 q15 p : α} {l : List α} : Er (q0 :: q1 :: q2 :: q3 :: q4 :: q5 :: q6 :: q7 :: q8 :: q9 :: q10 :: q11 :: q12 :: q13 :: q14 :: q15 :: p :: l) p (q0 :: q1 :: q2 :: q3 :: q4 :: q5 :: q6 :: q7 :: q8 :: q9 :: q10 :: q11 :: q12 :: q13 :: q14 :: q15 :: l) := .s (.s (.s (.s (.s (.s (.s (.s (.s (.s (.s (.s (.s (.s (.s (.s .z)))))))))))))))
theorem Take.g16 {q0 q1 q2 q3 q4 q5 q6 q7 q8 q9 q10 q11 q12 q13 q14 q15 p : Asn} {l : List Asn} : Take (q0 :: q1 :: q2 :: q3 :: q4 :: q5 :: q6 :: q7 :: q8 :: q9 :: q10 :: q11 :: q12 :: q13 :: q14 :: q15 :: p :: l) p (q0 :: q1 :: q2 :: q3 :: q4 :: q5 :: q6 :: q7 :: q8 :: q9 :: q10 :: q11 :: q12 :: q13 :: q14 :: q15 :: l) := .s (.s (.s (.s (.s (.s (.s (.s (.s (.s (.s (.s (.s (.s (.s (.s .z)))))))))))))))
theorem Sb.g16 {q0 q1 q2 q3 q4 q5 q6 q7 q8 q9 q10 q11 q12 q13 q14 q15 : Asn} {l : List Asn} : Sb (q0 :: q1 :: q2 :: q3 :: q4 :: q5 :: q6 :: q7 :: q8 :: q9 :: q10 :: q11 :: q12 :: q13 :: q14 :: q15 :: l) l := .s (.s (.s (.s (.s (.s (.s (.s (.s (.s (.s (.s (.s (.s (.s (.s .z)))))))))))))))
section
variable {N : Nat} {w0 : World} {S0 : Bs} {F : Act → World → Prop} {T : Slots} {l l' : List Asn} {P : Program} {Q : Exit → Act → World → Prop} {o : Oper} {ops : Array Oper} {rest : List Oper} {d : Nat}
theorem set1_pos {v : Value} : ∀ {l : List Value} {n : Nat}, n < l.length → Set1 l n v (l.set n v)
  | _ :: _, 0, _ => .z
  | _ :: _, n + 1, h => .s (set1_pos (by simpa using h))
  | [], _, h => by simp at h
theorem put_pre : ∀ {pre cs fl : List Value}, fl.length = cs.length → PutN (pre ++ fl) pre.length cs (pre ++ cs)
  | pre, [], [], _ => by simpa using PutN.n
  | pre, c :: cs, f :: fl, h => by
    have h1 : Set1 (pre ++ f :: fl) pre.length c ((pre ++ [c]) ++ fl) := by
      have := set1_pos (v := c) (l := pre ++ f :: fl) (n := pre.length) (by simp)
      simpa [List.set_append] using this
    have h2 := put_pre (pre := pre ++ [c]) (cs := cs) (fl := fl) (by simpa using h)
    refine .c h1 ?_
    simpa using h2
  | _, [], _ :: _, h => by simp at h
  | _, _ :: _, [], h => by simp at h
theorem put_self {fl cs : List Value} (h : cs.length = fl.length) : PutN fl 0 cs cs := by simpa using put_pre (pre := []) h.symm
theorem qW {x : Operand} {t : TypeId} {g e sz c : Nat} {fl : List Value} (ho : o.op = .load t x) (hg : AggIs P t true) (hx : Val T x (.pointer (some ⟨g, 0, none⟩))) (ht : Take l (rowA g e sz c fl) l') (hi : (P.info? t).map (·.size) = some fl.length) : Quiet P o T (WS w0 S0 l) (.agg fl.toArray) :=
  q_loadA ho hg hi hx (WS.rows0 ht fun _ _ h => h)
theorem qE {x : Operand} {t : TypeId} {B : Addr} {ecs : List Value} (ho : o.op = .load t x) (hg : AggIs P t true) (hx : Val T x (.pointer (some B))) (hF : FF w0 S0 B.block) (hc : ∀ (i : Nat) (u : Value), ecs[i]? = some u → w0.cell? (B.add i) = some u) (hi : (P.info? t).map (·.size) = some ecs.length) : Quiet P o T (WS w0 S0 l) (.agg ecs.toArray) :=
  q_loadA ho hg hi hx (WS.els hF hc)
theorem esW {p x : Operand} {t : TypeId} {g e sz c : Nat} {fl cs : List Value} (ho : o.op = .store t p x) (hp : Val T p (.pointer (some ⟨g, 0, none⟩))) (hx : Val T x (.agg cs.toArray)) (hT : Take l (rowA g e sz c fl) l') (hi : (P.info? t).map (·.size) = some cs.length) (h1 : cs.all (·.oneCell') = true) (hl : Nat.beq cs.length fl.length = true) : EffS P o T w0 S0 l (rowA g e sz c cs :: l') :=
  es_store (off := 0) ho hi (by rw [add_plain']; exact hp) hx (by rfl) (ones h1) hT (by have := Nat.eq_of_beq_eq_true hl; omega) (put_self (Nat.eq_of_beq_eq_true hl))
theorem es1 {p x : Operand} {t : TypeId} {v : Value} {g e sz c off : Nat} {fl fl' : List Value} (ho : o.op = .store t p x) (hi : (P.info? t).map (·.size) = some 1) (hp : Val T p (.pointer (some ((⟨g, 0, none⟩ : Addr).add off)))) (hx : Val T x v) (hv : v.cells.toList = [v])
    (h1 : v.oneCell' = true) (hT : Take l (rowA g e sz c fl) l') (hb : Nat.blt off fl.length = true) (hq : Set1 fl off v fl') : EffS P o T w0 S0 l (rowA g e sz c fl' :: l') :=
  es_store (cs := [v]) ho hi hp hx hv (fun u hu => by obtain rfl := List.mem_singleton.1 hu; exact h1) hT (Nat.le_of_ble_eq_true hb) (.c hq .n)
theorem resW {fn : Func} {s ty g e sz c : Nat} {cs : List Value} (hr : fn.results = #[.cell s ty]) (h : Get T (s, .pointer (some ⟨g, 0, none⟩))) (hg : AggIs P ty true) (ht : Take l (rowA g e sz c cs) l') (hi : (P.info? ty).map (·.size) = some cs.length) :
    ∀ (a : Act) (w : World), Holds T a → WS w0 S0 l w → (results fn a.tmps).run P w = .ok (.agg cs.toArray) w := resC hr h hg hi (WS.rows0 ht fun _ _ h => h)
theorem pv0 : ∀ a : Act, Holds T a → ((#[] : Array (Nat × Operand)).map fun (i, x) => (i, a.eval x)) = ([] : List (Nat × Value)).toArray := fun _ _ => by simp
theorem pv1 {i : Nat} {x : Operand} {v : Value} (h : Val T x v) : ∀ a : Act, Holds T a → ((#[(i, x)] : Array (Nat × Operand)).map fun (i, x) => (i, a.eval x)) = [(i, v)].toArray := fun a ha => by simp [h a ha]
theorem pv2 {i j : Nat} {x y : Operand} {v u : Value} (h : Val T x v) (k : Val T y u) : ∀ a : Act, Holds T a → ((#[(i, x), (j, y)] : Array (Nat × Operand)).map fun (i, x) => (i, a.eval x)) = [(i, v), (j, u)].toArray := fun a ha => by simp [h a ha, k a ha]
theorem pv3 {i j m : Nat} {x y z : Operand} {v u r : Value} (h : Val T x v) (k : Val T y u) (q : Val T z r) : ∀ a : Act, Holds T a → ((#[(i, x), (j, y), (m, z)] : Array (Nat × Operand)).map fun (i, x) => (i, a.eval x)) = [(i, v), (j, u), (m, r)].toArray := fun a ha => by simp [h a ha, k a ha, q a ha]
theorem pv4 {i j m n : Nat} {x y z p : Operand} {v u r s : Value} (h : Val T x v) (k : Val T y u) (q : Val T z r) (q' : Val T p s) : ∀ a : Act, Holds T a → ((#[(i, x), (j, y), (m, z), (n, p)] : Array (Nat × Operand)).map fun (i, x) => (i, a.eval x)) = [(i, v), (j, u), (m, r), (n, s)].toArray := fun a ha => by simp [h a ha, k a ha, q a ha, q' a ha]
theorem Y.mv {s : Nat} {v : Value} (hk : okd o N T = some d) (h : Get T (s, v)) (k : Y N w0 S0 (wpList P ops Q rest) ((d, v) :: T) l) (ho : o.op = .move (.tmp s) := by exact rfl) : Y N w0 S0 (wpList P ops Q (o :: rest)) T l := Y.ql hk (q_move ho (.t h)) k
theorem Y.as {s : Nat} {v : Value} (hk : okd o N T = some d) (h : Get T (s, v)) (k : Y N w0 S0 (wpList P ops Q rest) ((d, v) :: T) l) (ho : o.op = .assign (.tmp s) := by exact rfl) : Y N w0 S0 (wpList P ops Q (o :: rest)) T l := Y.ql hk (q_assign ho (.t h)) k
theorem Y.fa {s : Nat} {t : TypeId} {f off : Nat} {ad : Addr} (hk : okd o N T = some d) (h : Get T (s, .pointer (some ad))) (hs : ∀ (ad : Addr) (w : World), (Instr.fieldAt t (.pointer (some ad)) f).run P w = .ok (.pointer (some (ad.add off))) w)
    (k : Y N w0 S0 (wpList P ops Q rest) ((d, .pointer (some (ad.add off))) :: T) l) (ho : o.op = .fieldAddr t (.tmp s) f := by exact rfl) : Y N w0 S0 (wpList P ops Q (o :: rest)) T l := Y.ql hk (q_fieldAddr ho (.t h) (hs ad)) k
theorem Y.ld {s : Nat} {t : TypeId} {g e sz c i : Nat} {fl : List Value} {v : Value} (hk : okd o N T = some d) (hg : AggIs P t false) (h : Get T (s, .pointer (some ((⟨g, 0, none⟩ : Addr).add i)))) (ht : Take l (rowA g e sz c fl) l')
    (k : Y N w0 S0 (wpList P ops Q rest) ((d, v) :: T) l) (ho : o.op = .load t (.tmp s) := by exact rfl) (hv : fl[i]? = some v := by exact rfl) : Y N w0 S0 (wpList P ops Q (o :: rest)) T l := Y.ql hk (q_load ho hg (.t h) (WS.row ht hv)) k
theorem Y.le {s : Nat} {t : TypeId} {B : Addr} {ecs : List Value} {i : Nat} {v : Value} (hk : okd o N T = some d) (hg : AggIs P t false) (h : Get T (s, .pointer (some (B.add i)))) (hF : FF w0 S0 B.block) (hc : ∀ (i : Nat) (u : Value), ecs[i]? = some u → w0.cell? (B.add i) = some u)
    (k : Y N w0 S0 (wpList P ops Q rest) ((d, v) :: T) l) (ho : o.op = .load t (.tmp s) := by exact rfl) (hv : ecs[i]? = some v := by exact rfl) : Y N w0 S0 (wpList P ops Q (o :: rest)) T l := Y.ql hk (q_load ho hg (.t h) (WS.el hF hc hv)) k
theorem okd_spec {d : Nat} (h : okd o N T = some d) : o.guard = none ∧ o.dst = some d ∧ d < N ∧ fresh d T = true := by
  unfold okd at h
  cases hd : o.dst with
  | none => rw [hd] at h; cases h
  | some d' =>
    rw [hd] at h
    simp only at h
    cases hc : (o.guard.isNone && Nat.blt d' N && fresh d' T) with
    | false => rw [hc] at h; cases h
    | true =>
      rw [hc] at h
      obtain rfl := Option.some.inj h
      simp only [Bool.and_eq_true, Option.isNone_iff_eq_none] at hc
      exact ⟨hc.1.1, rfl, Nat.le_of_ble_eq_true hc.1.2, hc.2⟩
theorem Y.cl {f : FuncId} {fn : Func} {as_ : Array Operand} {ts : Array TypeId} {args : Array Value} {lc lr : List Asn} {R : Value → List Asn → Prop} (hk : okd o N T = some d) (ho : o.op = .call { callee := .value (.func f), args := as_, argTypes := ts }) (hf : P.funcs[f]? = some fn) (hb : fn.body.isSome = true) (hn : (fn.name == "runtime.NumGoroutine") = false)
    (ha : ∀ a : Act, Holds T a → as_.map a.eval = args) (hT : Takes l lc lr) (ht : ∀ w S1, Star lc w S1 → Tr w0 S0 w S1 lr → Calls P f args w (TriPost w S1 R)) (h : ∀ v l', R v l' → Y N w0 S0 (wpList P ops Q rest) ((d, v) :: T) (l' ++ lr)) : Y N w0 S0 (wpList P ops Q (o :: rest)) T l := by
  obtain ⟨h1, h2, h3, h4⟩ := okd_spec hk
  exact Y.call (goes_list h1) h2 h3 h4 (c_call ho hf hb hn ha) hT ht h
theorem Y.el {R : Value → List Asn → Prop} (hk : okd o N T = some d) (he : Eff P o T w0 S0 l R) (h : ∀ v l', R v l' → Y N w0 S0 (wpList P ops Q rest) ((d, v) :: T) l') : Y N w0 S0 (wpList P ops Q (o :: rest)) T l := by
  obtain ⟨h1, h2, h3, h4⟩ := okd_spec hk
  exact Y.e (goes_list h1) h2 h3 h4 he h
theorem Y.dk {K : Act → World → Prop} {last i : Nat} {lk : List Asn} {r : List (Nat × Bool)} {v : Value} (ho : ops[i]? = some o) (hk : okd o N T = some d) (hs : Sb l lk) (hq : Quiet P o T (WS w0 S0 lk) v)
    (h : Y N w0 S0 (wpSch P ops (NoPanic Q) (WS w0 S0 lk) last K r) ((d, v) :: T) l) : Y N w0 S0 (wpSch P ops (NoPanic Q) (WS w0 S0 lk) last K ((i, true) :: r)) T l := by
  obtain ⟨h1, h2, h3, h4⟩ := okd_spec hk
  exact Y.dq ho h1 h2 h3 h4 hs hq h
theorem Y.dm {K : Act → World → Prop} {last i : Nat} {lk : List Asn} {r : List (Nat × Bool)} {s : Nat} {v : Value} (hi : ops[i]? = some o) (hk : okd o N T = some d) (hs : Sb l lk) (h : Get T (s, v)) (k : Y N w0 S0 (wpSch P ops (NoPanic Q) (WS w0 S0 lk) last K r) ((d, v) :: T) l) (ho : o.op = .move (.tmp s) := by exact rfl) : Y N w0 S0 (wpSch P ops (NoPanic Q) (WS w0 S0 lk) last K ((i, true) :: r)) T l := Y.dk hi hk hs (q_move ho (.t h)) k
theorem Y.df {K : Act → World → Prop} {last i : Nat} {lk : List Asn} {r : List (Nat × Bool)} {s : Nat} {t : TypeId} {f off : Nat} {ad : Addr} (hi : ops[i]? = some o) (hk : okd o N T = some d) (hs : Sb l lk) (h : Get T (s, .pointer (some ad))) (hf : ∀ (ad : Addr) (w : World), (Instr.fieldAt t (.pointer (some ad)) f).run P w = .ok (.pointer (some (ad.add off))) w)
    (k : Y N w0 S0 (wpSch P ops (NoPanic Q) (WS w0 S0 lk) last K r) ((d, .pointer (some (ad.add off))) :: T) l) (ho : o.op = .fieldAddr t (.tmp s) f := by exact rfl) : Y N w0 S0 (wpSch P ops (NoPanic Q) (WS w0 S0 lk) last K ((i, true) :: r)) T l := Y.dk hi hk hs (q_fieldAddr ho (.t h) (hf ad)) k
theorem Y.dl {K : Act → World → Prop} {last i : Nat} {lk : List Asn} {r : List (Nat × Bool)} {s : Nat} {t : TypeId} {g e sz c j : Nat} {fl : List Value} {v : Value} {lr : List Asn} (hi : ops[i]? = some o) (hk : okd o N T = some d) (hs : Sb l lk) (hg : AggIs P t false) (h : Get T (s, .pointer (some ((⟨g, 0, none⟩ : Addr).add j)))) (ht : Take lk (rowA g e sz c fl) lr)
    (k : Y N w0 S0 (wpSch P ops (NoPanic Q) (WS w0 S0 lk) last K r) ((d, v) :: T) l) (ho : o.op = .load t (.tmp s) := by exact rfl) (hv : fl[j]? = some v := by exact rfl) : Y N w0 S0 (wpSch P ops (NoPanic Q) (WS w0 S0 lk) last K ((i, true) :: r)) T l := Y.dk hi hk hs (q_load ho hg (.t h) (WS.row ht hv)) k
theorem Y.de {K : Act → World → Prop} {last i : Nat} {lk : List Asn} {r : List (Nat × Bool)} {s : Nat} {t : TypeId} {B : Addr} {ecs : List Value} {j : Nat} {v : Value} (hi : ops[i]? = some o) (hk : okd o N T = some d) (hs : Sb l lk) (hg : AggIs P t false) (h : Get T (s, .pointer (some (B.add j)))) (hF : FF w0 S0 B.block) (hc : ∀ (i : Nat) (u : Value), ecs[i]? = some u → w0.cell? (B.add i) = some u)
    (k : Y N w0 S0 (wpSch P ops (NoPanic Q) (WS w0 S0 lk) last K r) ((d, v) :: T) l) (ho : o.op = .load t (.tmp s) := by exact rfl) (hv : ecs[j]? = some v := by exact rfl) : Y N w0 S0 (wpSch P ops (NoPanic Q) (WS w0 S0 lk) last K ((i, true) :: r)) T l := Y.dk hi hk hs (q_load ho hg (.t h) (WS.el hF hc hv)) k
theorem Y.dn {K : Act → World → Prop} {last i : Nat} {lk : List Asn} {r : List (Nat × Bool)} {s : Nat} {ad : Addr} (hi : ops[i]? = some o) (hk : okd o N T = some d) (hs : Sb l lk) (h : Get T (s, .pointer (some ad))) (k : Y N w0 S0 (wpSch P ops (NoPanic Q) (WS w0 S0 lk) last K r) ((d, .pointer (some ad)) :: T) l) (ho : o.op = .nilCheck (.tmp s) := by exact rfl) : Y N w0 S0 (wpSch P ops (NoPanic Q) (WS w0 S0 lk) last K ((i, true) :: r)) T l := Y.dk hi hk hs (q_nilCheck ho (.t h)) k
theorem Y.nc {s : Nat} {ad : Addr} (hk : okd o N T = some d) (h : Get T (s, .pointer (some ad))) (k : Y N w0 S0 (wpList P ops Q rest) ((d, .pointer (some ad)) :: T) l) (ho : o.op = .nilCheck (.tmp s) := by exact rfl) : Y N w0 S0 (wpList P ops Q (o :: rest)) T l := Y.ql hk (q_nilCheck ho (.t h)) k
theorem Y.nt {K : Act → World → Prop} (h : Y N w0 S0 K T l) : Y N w0 S0 (wpList P ops (Exit.then K Q) []) T l := Y.nil (Y.then_ h)
def qs (i n : Nat) : List (Nat × Bool) := (List.range n).map fun k => (i + k, true)
theorem Y.qg {j t : Nat} {b : Bool} {v : Value} (hg : o.guard = some (j, b)) (hj : (ops[j]?).bind (·.dst) = some t) (ht : Get T (t, .bool b)) (hd : o.dst = some d) (hN : Nat.blt d N = true) (hf : fresh d T = true) (hq : Quiet P o T (WS w0 S0 l) v) (h : Y N w0 S0 (wpList P ops Q rest) ((d, v) :: T) l) : Y N w0 S0 (wpList P ops Q (o :: rest)) T l :=
  Y.q (goes_listg hg hj ht) hd (Nat.le_of_ble_eq_true hN) hf hq h
theorem Y.dr {lk : List Asn} {id : Nat} {os : List Oper} (hl : Sb l lk) (last : Nat) (hm : P.follows .mixedOrders = true)
    (h : Y N w0 S0 (wpL P .any os.toArray (NoPanic Q) (WS w0 S0 lk) last os.length (Array.replicate os.length false)) T l) : Y N w0 S0 ((Code.region id os.toArray true).wp P Q) T l := Y.draw lk last hm h
def listA (sch : List (Nat × Bool)) (a : Array Bool) : Array Bool := sch.foldl (fun a p => a.setIfInBounds p.1 true) a
theorem Y.sc {last : Nat} {lk : List Asn} {md : Region.Mode} (sch : List (Nat × Bool)) {m : Nat} {listed : Array Bool} (hc : (Nat.ble sch.length m && chkA md ops last sch listed (listA sch listed)) = true)
    (h : Y N w0 S0 (wpSch P ops (NoPanic Q) (WS w0 S0 lk) last (wpL P md ops (NoPanic Q) (WS w0 S0 lk) last (m - sch.length) (listA sch listed)) sch) T l) : Y N w0 S0 (wpL P md ops (NoPanic Q) (WS w0 S0 lk) last m listed) T l := by
  simp only [Bool.and_eq_true] at hc
  exact Y.sch sch (m - sch.length) _ (by have := Nat.le_of_ble_eq_true hc.1; omega) hc.2 h
end
theorem Y.cut {N : Nat} {w0 : World} {S0 : Bs} {T : Slots} {l : List Asn} {P : Program} {Q : Exit → Act → World → Prop} {x y : Code} {γ : Type} (Tm : γ → Slots) (lm : γ → List Asn) (φ : γ → Prop)
    (hx : Y N w0 S0 (x.wp P (Exit.then (fun a w => a.defers = [] ∧ a.tmps.size = N ∧ ∃ g', φ g' ∧ Holds (Tm g') a ∧ WS w0 S0 (lm g') w) Q)) T l) (hy : ∀ g, φ g → Y N w0 S0 (y.wp P Q) (Tm g) (lm g)) : Y N w0 S0 ((Code.seq x y).wp P Q) T l := by
  refine Y.seq fun a w h1 h2 h3 h4 => ?_
  refine Code.wp_mono (fun e a' w' h => ?_) (hx a w h1 h2 h3 h4)
  cases e with
  | normal => obtain ⟨k1, k2, g, hg, k3, k4⟩ := h; exact hy g hg a' w' k1 k2 k3 k4
  | exit id => exact h
  | goto l => exact h
  | ret => exact h
  | panic ch => exact h
  | outgrown => exact h
theorem Y.meet {N : Nat} {w0 : World} {S0 : Bs} {T : Slots} {l : List Asn} {Q : Exit → Act → World → Prop} {γ : Type} {Tm : γ → Slots} {lm : γ → List Asn} {φ : γ → Prop} (g' : γ) (hg : φ g') (hT : Sub T (Tm g')) (hl : ∀ w, WS w0 S0 l w → WS w0 S0 (lm g') w) :
    Y N w0 S0 (Exit.then (fun a w => a.defers = [] ∧ a.tmps.size = N ∧ ∃ g', φ g' ∧ Holds (Tm g') a ∧ WS w0 S0 (lm g') w) Q .normal) T l :=
  fun _ w h1 h2 h3 h4 => ⟨h1, h2, g', hg, hT.holds h3, hl w h4⟩
end Go.Proofs.YtmejbfmhaoilmaaGreat
/- What is proved: the disk, as plain functions on data, and when each answer comes. No condition. -/
namespace Go.Proofs.YtmejbfmhaoilmaaGreat
set_option linter.unusedVariables false
set_option linter.unusedSimpArgs false
def firstF {α : Type} (f : α → Int) : List α → Int
  | [] => 0
  | x :: xs => if f x = 0 then firstF f xs else f x
theorem firstF_none {α : Type} {f : α → Int} {xs : List α} (h : ∀ (j : Nat) x, xs[j]? = some x → f x = 0) : firstF f xs = 0 := by
  induction xs with
  | nil => rfl
  | cons x xs ih =>
    simp only [firstF, h 0 x rfl, if_true]
    exact ih (fun j y hy => h (j + 1) y hy)
theorem firstF_some {α : Type} {f : α → Int} : ∀ {xs : List α} {k : Nat} {x : α}, xs[k]? = some x → f x ≠ 0 → (∀ j y, j < k → xs[j]? = some y → f y = 0) → firstF f xs = f x
  | [], k, x, h, _, _ => by simp at h
  | y :: xs, 0, x, h, hn, _ => by
    simp at h; subst h
    simp only [firstF, if_neg hn]
  | y :: xs, k + 1, x, h, hn, ha => by
    simp only [firstF, ha 0 y (by omega) rfl, if_true]
    exact firstF_some (by simpa using h) hn (fun j z hj hz => ha (j + 1) z (by omega) (by simpa using hz))
theorem idxF_any {α : Type} (p : α → Bool) (xs : List α) : decide (0 ≤ idxF p xs) = xs.any p := by
  unfold idxF
  cases h : xs.findIdx? p with
  | none =>
    have : xs.any p = false := by rw [List.any_eq_false]; intro x hx; have := List.findIdx?_eq_none_iff.1 h x hx; simp [this]
    rw [this]; rfl
  | some i =>
    have : xs.any p = true := by
      rw [List.any_eq_true]
      obtain ⟨hi, hp, _⟩ := List.findIdx?_eq_some_iff_getElem.1 h
      exact ⟨_, List.getElem_mem hi, hp⟩
    rw [this]; simp
abbrev placeIn (n : Nat) (at_ : Int) : Prop := 0 ≤ at_ ∧ at_ ≤ (n : Int) - 1
theorem take_snoc {α : Type} {xs : List α} {k : Nat} {x : α} (h : xs[k]? = some x) : xs.take k ++ [x] = xs.take (k + 1) := by
  rw [List.take_add_one, h]; rfl
def isExt (n : Nat) (e : DExt) : Prop := (1 ≤ e.key ∧ e.key ≤ 9999) ∧ (0 ≤ e.frm ∧ e.frm ≤ n) ∧ (1 ≤ e.cnt ∧ e.cnt ≤ n) ∧ e.frm + e.cnt ≤ n
instance (n : Nat) (e : DExt) : Decidable (isExt n e) := by unfold isExt; infer_instance
abbrev owns (a : Int) (e : DExt) : Prop := e.frm ≤ a ∧ a ≤ e.frm + e.cnt - 1
theorem firstF_all {α : Type} {f : α → Int} : ∀ {xs : List α}, firstF f xs = 0 → ∀ x, x ∈ xs → f x = 0
  | [], _, x, hx => by cases hx
  | y :: xs, h, x, hx => by
    unfold firstF at h
    by_cases hy : f y = 0
    · rw [if_pos hy] at h
      rcases List.mem_cons.1 hx with rfl | hx
      · exact hy
      · exact firstF_all h x hx
    · rw [if_neg hy] at h; exact absurd h hy
end Go.Proofs.YtmejbfmhaoilmaaGreat
/- What is proved: names, inodes and their faults, in plain Lean. No condition. -/
namespace Go.Proofs.YtmejbfmhaoilmaaGreat
open Go Go.RowKit
set_option linter.unusedVariables false
set_option linter.unusedSimpArgs false
abbrev lowB (b : UInt8) : Prop := (97 : Int) ≤ (b.toNat : Int) ∧ (b.toNat : Int) ≤ 122
def nameFault (s : ByteArray) : Int := if s.data.toList.all (fun b => decide (lowB b)) = true then (if s.size = 0 then 5 else if 4 < s.size then 2 else 0) else 5
theorem nameFault_5 {s : ByteArray} {k : Nat} {b : UInt8} (hb : s.data.toList[k]? = some b) (h : ¬ lowB b) : nameFault s = 5 := by
  unfold nameFault
  rw [if_neg]
  intro ha
  exact h (of_decide_eq_true (List.all_eq_true.1 ha b (List.mem_of_getElem? hb)))
theorem low_all {s : ByteArray} (h : ∀ j b, j < s.size → s.data.toList[j]? = some b → lowB b) : s.data.toList.all (fun b => decide (lowB b)) = true :=
  List.all_eq_true.2 fun b hb => by
    obtain ⟨j, hj⟩ := List.mem_iff_getElem?.1 hb
    exact decide_eq_true (h j b (by have := (List.getElem?_eq_some_iff.1 hj).1; rw [str_len] at this; exact this) hj)
theorem size_ne {s : ByteArray} (h : ¬ s = ⟨#[]⟩) : ¬ s.size = 0 := fun h0 => h (by
  cases s with
  | mk d => have : d.size = 0 := h0
            rw [Array.size_eq_zero_iff] at this
            rw [this])
theorem nameFault_e {s : ByteArray} (h : s = ⟨#[]⟩) : nameFault s = 5 := by
  subst h
  decide
theorem nameFault_2 {s : ByteArray} (hall : ∀ j b, j < s.size → s.data.toList[j]? = some b → lowB b) (h : ¬ s = ⟨#[]⟩) (h4 : (4 : Int) < (s.size : Int)) : nameFault s = 2 := by
  unfold nameFault
  rw [if_pos (low_all hall), if_neg (size_ne h), if_pos (by omega)]
theorem nameFault_0 {s : ByteArray} (hall : ∀ j b, j < s.size → s.data.toList[j]? = some b → lowB b) (h : ¬ s = ⟨#[]⟩) (h4 : ¬ (4 : Int) < (s.size : Int)) : nameFault s = 0 := by
  unfold nameFault
  rw [if_pos (low_all hall), if_neg (size_ne h), if_neg (by omega)]
theorem name_4 {s : ByteArray} (h : nameFault s = 0) : s.size ≤ 4 ∧ 0 < s.size := by
  unfold nameFault at h
  split at h
  · split at h
    · exact absurd h (by decide)
    · split at h
      · exact absurd h (by decide)
      · omega
  · exact absurd h (by decide)
theorem bl_tri : ∀ x y : List UInt8, (Op.bytesLess x y || decide (x = y)) = !Op.bytesLess y x
  | [], [] => by simp [Op.bytesLess]
  | [], b :: y => by simp [Op.bytesLess]
  | a :: x, [] => by simp [Op.bytesLess]
  | a :: x, b :: y => by
    have ih := bl_tri x y
    simp only [Op.bytesLess, List.cons.injEq]
    by_cases h : a = b
    · subst h
      have : ¬ a < a := UInt8.lt_irrefl a
      simp [this] at ih ⊢
      exact ih
    · have h' : ¬ b = a := fun e => h e.symm
      simp [h, h']
      rcases UInt8.lt_or_lt_of_ne h with g | g
      · have : ¬ b < a := UInt8.lt_asymm g
        simp [g, this, UInt8.le_of_lt g]
        exact .inl h'
      · have : ¬ a < b := UInt8.lt_asymm g
        simp [g, this]
        exact fun e => absurd e h
theorem toList_inj {s u : ByteArray} : s.toList = u.toList ↔ s = u := by
  constructor
  · intro h
    have h2 : s.data.toList = u.data.toList := by simpa [ByteArray.toList_eq] using h
    cases s; cases u
    simp at h2
    rw [h2]
  · rintro rfl; rfl
theorem sle_not (s u : ByteArray) : (sLt s u || decide (s = u)) = !sLt u s := by
  have := bl_tri s.toList u.toList
  unfold sLt
  rw [← this]
  congr 1
  rw [decide_eq_decide]
  exact toList_inj.symm
def fileFault (x : DInode) : Int :=
  if (1 ≤ x.links ∧ x.links ≤ 60) ∧ (0 ≤ x.size ∧ x.size ≤ 32) then
    if (x.blocks.length : Int) = (x.size + 7) / 8 then
      if x.blocks.any (fun b => !decide (0 ≤ b ∧ b ≤ 19)) = true then 3 else if x.blocks.Nodup then 0 else 7
    else 1
  else 3
theorem fileFault_3 {x : DInode} (h : ¬ ((1 ≤ x.links ∧ x.links ≤ 60) ∧ (0 ≤ x.size ∧ x.size ≤ 32))) : fileFault x = 3 := if_neg h
theorem fileFault_1 {x : DInode} (h : (1 ≤ x.links ∧ x.links ≤ 60) ∧ (0 ≤ x.size ∧ x.size ≤ 32)) (h2 : ¬ (x.blocks.length : Int) = (x.size + 7) / 8) : fileFault x = 1 := by
  unfold fileFault; rw [if_pos h, if_neg h2]
theorem fileFault_3' {x : DInode} (h : (1 ≤ x.links ∧ x.links ≤ 60) ∧ (0 ≤ x.size ∧ x.size ≤ 32)) (h2 : (x.blocks.length : Int) = (x.size + 7) / 8) (h3 : x.blocks.any (fun b => !decide (0 ≤ b ∧ b ≤ 19)) = true) : fileFault x = 3 := by
  unfold fileFault; rw [if_pos h, if_pos h2, if_pos h3]
theorem fileFault_7 {x : DInode} (h : (1 ≤ x.links ∧ x.links ≤ 60) ∧ (0 ≤ x.size ∧ x.size ≤ 32)) (h2 : (x.blocks.length : Int) = (x.size + 7) / 8) (h3 : x.blocks.any (fun b => !decide (0 ≤ b ∧ b ≤ 19)) = false) (h4 : ¬ x.blocks.Nodup) : fileFault x = 7 := by
  unfold fileFault; rw [if_pos h, if_pos h2, if_neg (by rw [h3]; decide), if_neg h4]
theorem fileFault_0 {x : DInode} (h : (1 ≤ x.links ∧ x.links ≤ 60) ∧ (0 ≤ x.size ∧ x.size ≤ 32)) (h2 : (x.blocks.length : Int) = (x.size + 7) / 8) (h3 : x.blocks.any (fun b => !decide (0 ≤ b ∧ b ≤ 19)) = false) (h4 : x.blocks.Nodup) : fileFault x = 0 := by
  unfold fileFault; rw [if_pos h, if_pos h2, if_neg (by rw [h3]; decide), if_pos h4]
theorem nodup_s {α : Type} {xs : List α} {k : Nat} {b : α} (h : (xs.take k).Nodup) (hb : xs[k]? = some b) (hn : ¬ b ∈ xs.take k) : (xs.take (k + 1)).Nodup := by
  rw [← take_snoc hb]
  exact List.nodup_append.2 ⟨h, by simp, fun a ha c hc => by
    obtain rfl := List.mem_singleton.1 hc
    exact fun e => hn (e ▸ ha)⟩
theorem not_nodup {α : Type} {xs : List α} {k : Nat} {b : α} (hb : xs[k]? = some b) (hm : b ∈ xs.take k) : ¬ xs.Nodup := fun h => by
  have : (xs.take (k + 1)).Nodup := h.sublist (List.take_sublist _ _)
  rw [← take_snoc hb] at this
  exact (List.nodup_append.1 this).2.2 b hm b (List.mem_singleton.2 rfl) rfl
theorem mem_take_of {α : Type} {xs : List α} {k q : Nat} {b : α} (hb : xs[q]? = some b) (h : q < k) : b ∈ xs.take k := by
  refine List.mem_of_getElem? (i := q) ?_
  rw [List.getElem?_take, if_pos h]
  exact hb
theorem not_mem_take {α : Type} {xs : List α} {k : Nat} {b : α} (h : ∀ j y, j < k → xs[j]? = some y → ¬ y = b) : ¬ b ∈ xs.take k := fun hm => by
  obtain ⟨j, hj⟩ := List.mem_iff_getElem?.1 hm
  rw [List.getElem?_take] at hj
  split at hj
  · rename_i hlt; exact h j b hlt hj rfl
  · cases hj
theorem any_bad {xs : List Int} {k : Nat} {b : Int} (hb : xs[k]? = some b) (h : ¬ (0 ≤ b ∧ b ≤ 19)) : xs.any (fun b => !decide (0 ≤ b ∧ b ≤ 19)) = true :=
  List.any_eq_true.2 ⟨b, List.mem_of_getElem? hb, by simp only [decide_eq_false h]; rfl⟩
theorem any_ok {xs : List Int} (h : ∀ j b, j < xs.length → xs[j]? = some b → 0 ≤ b ∧ b ≤ 19) : xs.any (fun b => !decide (0 ≤ b ∧ b ≤ 19)) = false := by
  rw [List.any_eq_false]
  intro b hb
  obtain ⟨j, hj⟩ := List.mem_iff_getElem?.1 hb
  rw [decide_eq_true (h j b (List.getElem?_eq_some_iff.1 hj).1 hj)]
  decide
def busyFault (xs : List Int) : Int := if 20 < xs.length then 2 else if xs.any (fun b => !decide (0 ≤ b ∧ b ≤ 19)) = true then 3 else 0
theorem busyFault_2 {xs : List Int} (h : (20 : Int) < (xs.length : Int)) : busyFault xs = 2 := if_pos (by omega)
theorem busyFault_3 {xs : List Int} (h : ¬ (20 : Int) < (xs.length : Int)) (h2 : xs.any (fun b => !decide (0 ≤ b ∧ b ≤ 19)) = true) : busyFault xs = 3 := by unfold busyFault; rw [if_neg (by omega), if_pos h2]
theorem busyFault_0 {xs : List Int} (h : ¬ (20 : Int) < (xs.length : Int)) (h2 : xs.any (fun b => !decide (0 ≤ b ∧ b ≤ 19)) = false) : busyFault xs = 0 := by unfold busyFault; rw [if_neg (by omega), if_neg (by rw [h2]; decide)]
def entOk (es : List DEnt) (j : Nat) (e : DEnt) : Int :=
  if nameFault e.name = 0 then if 0 ≤ e.ino ∧ e.ino ≤ 9 then (match (if j = 0 then none else es[j - 1]?) with | some p => if sLt p.name e.name = true then 0 else 1 | none => 0) else 3 else nameFault e.name
def entAt (es : List DEnt) (j : Nat) : Int := match es[j]? with | some e => entOk es j e | none => 0
def firstN (f : Nat → Int) (n : Nat) : Int := firstF f (List.range n)
theorem firstN_some {f : Nat → Int} {n k : Nat} (hk : k < n) (h : ¬ f k = 0) (ha : ∀ j, j < k → f j = 0) : firstN f n = f k :=
  firstF_some (k := k) (x := k) (by simp [hk]) h (fun j y hj hy => by
    have : j < n := by omega
    simp [this] at hy
    subst hy
    exact ha j hj)
theorem firstN_none {f : Nat → Int} {n : Nat} (ha : ∀ j, j < n → f j = 0) : firstN f n = 0 :=
  firstF_none (fun j y hy => by
    have := (List.getElem?_eq_some_iff.1 hy)
    obtain ⟨h1, h2⟩ := this
    simp at h1 h2
    subst h2
    exact ha j h1)
def dirFault (x : DInode) : Int := if 6 < x.ents.length then 2 else firstN (entAt x.ents) x.ents.length
theorem dirFault_2 {x : DInode} (h : (6 : Int) < (x.ents.length : Int)) : dirFault x = 2 := if_pos (by omega)
theorem dirFault_s {x : DInode} {k : Nat} {e : DEnt} (h : ¬ (6 : Int) < (x.ents.length : Int)) (he : x.ents[k]? = some e) (hn : ¬ entOk x.ents k e = 0) (ha : ∀ j, j < k → entAt x.ents j = 0) : dirFault x = entOk x.ents k e := by
  have e1 : entAt x.ents k = entOk x.ents k e := by unfold entAt; rw [he]
  unfold dirFault
  rw [if_neg (by omega), firstN_some (List.getElem?_eq_some_iff.1 he).1 (by rw [e1]; exact hn) ha, e1]
theorem dirFault_0 {x : DInode} (h : ¬ (6 : Int) < (x.ents.length : Int)) (ha : ∀ j, j < x.ents.length → entAt x.ents j = 0) : dirFault x = 0 := by
  unfold dirFault; rw [if_neg (by omega), firstN_none ha]
theorem entOk_n {es : List DEnt} {j : Nat} {e : DEnt} (h : ¬ nameFault e.name = 0) : entOk es j e = nameFault e.name := if_neg h
theorem entOk_3 {es : List DEnt} {j : Nat} {e : DEnt} (h : nameFault e.name = 0) (h2 : ¬ (0 ≤ e.ino ∧ e.ino ≤ 9)) : entOk es j e = 3 := by unfold entOk; rw [if_pos h, if_neg h2]
theorem entOk_1 {es : List DEnt} {j : Nat} {e p : DEnt} (h : nameFault e.name = 0) (h2 : 0 ≤ e.ino ∧ e.ino ≤ 9) (hj : 0 < j) (hp : es[j - 1]? = some p) (hl : sLt p.name e.name = false) : entOk es j e = 1 := by
  unfold entOk; rw [if_pos h, if_pos h2, if_neg (by omega), hp]; simp [hl]
theorem entOk_p {es : List DEnt} {j : Nat} {e p : DEnt} (h : nameFault e.name = 0) (h2 : 0 ≤ e.ino ∧ e.ino ≤ 9) (hj : 0 < j) (hp : es[j - 1]? = some p) (hl : sLt p.name e.name = true) : entOk es j e = 0 := by
  unfold entOk; rw [if_pos h, if_pos h2, if_neg (by omega), hp]; simp [hl]
theorem entOk_z {es : List DEnt} {j : Nat} {e : DEnt} (h : nameFault e.name = 0) (h2 : 0 ≤ e.ino ∧ e.ino ≤ 9) (hj : j = 0) : entOk es j e = 0 := by
  unfold entOk; rw [if_pos h, if_pos h2, if_pos hj]
theorem entAt_s {es : List DEnt} {k : Nat} {e : DEnt} (ha : ∀ j, j < k → entAt es j = 0) (he : es[k]? = some e) (h : entOk es k e = 0) : ∀ j, j < k + 1 → entAt es j = 0 := fun j hj => by
  by_cases hk : j < k
  · exact ha j hk
  · obtain rfl : j = k := by omega
    unfold entAt; rw [he]; exact h
def inodeFault (x : DInode) : Int :=
  if 0 ≤ x.kind ∧ x.kind ≤ 2 then
    if (x.kind ≠ 1 ∧ ¬ (x.links = 0 ∧ x.size = 0 ∧ x.blocks.length = 0)) ∨ (x.kind ≠ 2 ∧ ¬ x.ents.length = 0) then 1
    else if x.kind = 1 then fileFault x else if x.kind = 2 then dirFault x else 0
  else 1
theorem inodeFault_k {x : DInode} (h : ¬ (0 ≤ x.kind ∧ x.kind ≤ 2)) : inodeFault x = 1 := if_neg h
theorem inodeFault_1 {x : DInode} (h : (x.kind ≠ 1 ∧ ¬ (x.links = 0 ∧ x.size = 0 ∧ x.blocks.length = 0)) ∨ (x.kind ≠ 2 ∧ ¬ x.ents.length = 0)) : inodeFault x = 1 := by
  unfold inodeFault
  by_cases hk : 0 ≤ x.kind ∧ x.kind ≤ 2
  · rw [if_pos hk, if_pos h]
  · rw [if_neg hk]
theorem inodeFault_f {x : DInode} (h : x.kind = 1) (h2 : x.ents.length = 0) : inodeFault x = fileFault x := by
  unfold inodeFault; rw [if_pos (by omega), if_neg (by omega), if_pos h]
theorem inodeFault_d {x : DInode} (h : x.kind = 2) (h2 : x.links = 0 ∧ x.size = 0 ∧ x.blocks.length = 0) : inodeFault x = dirFault x := by
  unfold inodeFault; rw [if_pos (by omega), if_neg (by omega), if_neg (by omega), if_pos h]
theorem inodeFault_0 {x : DInode} (h : x.kind = 0) (h2 : x.links = 0 ∧ x.size = 0 ∧ x.blocks.length = 0) (h3 : x.ents.length = 0) : inodeFault x = 0 := by
  unfold inodeFault; rw [if_pos (by omega), if_neg (by omega), if_neg (by omega), if_neg (by omega)]
theorem inodeFault_r {x : DInode} (h : 0 ≤ x.kind ∧ x.kind ≤ 2) (h1 : ¬ x.kind = 1) (h2 : x.links = 0 ∧ x.size = 0 ∧ x.blocks.length = 0) (h3 : x.kind = 2 ∨ x.ents.length = 0) : inodeFault x = dirFault x := by
  by_cases hk : x.kind = 2
  · exact inodeFault_d hk h2
  · rw [inodeFault_0 (by omega) h2 (by omega)]
    exact (dirFault_0 (by omega) (fun j hj => by omega)).symm
def inodesFault (xs : List DInode) : Int := if 10 < xs.length then 2 else firstF inodeFault xs
theorem inodesFault_2 {xs : List DInode} (h : (10 : Int) < (xs.length : Int)) : inodesFault xs = 2 := if_pos (by omega)
theorem inodesFault_s {xs : List DInode} {k : Nat} {x : DInode} (h : ¬ (10 : Int) < (xs.length : Int)) (hx : xs[k]? = some x) (hn : ¬ inodeFault x = 0) (ha : ∀ j y, j < k → xs[j]? = some y → inodeFault y = 0) : inodesFault xs = inodeFault x := by
  unfold inodesFault; rw [if_neg (by omega), firstF_some hx hn ha]
theorem inodesFault_0 {xs : List DInode} (h : ¬ (10 : Int) < (xs.length : Int)) (ha : ∀ j y, j < xs.length → xs[j]? = some y → inodeFault y = 0) : inodesFault xs = 0 := by
  unfold inodesFault; rw [if_neg (by omega), firstF_none (fun j y hy => ha j y (List.getElem?_eq_some_iff.1 hy).1 hy)]
theorem inodes_10 {xs : List DInode} (h : inodesFault xs = 0) : xs.length ≤ 10 := by
  unfold inodesFault at h
  split at h
  · exact absurd h (by decide)
  · omega
theorem inodes_all {xs : List DInode} (h : inodesFault xs = 0) : ∀ x, x ∈ xs → inodeFault x = 0 := by
  unfold inodesFault at h
  split at h
  · exact absurd h (by decide)
  · exact firstF_all h
theorem ents_6 {x : DInode} (h : inodeFault x = 0) : x.ents.length ≤ 6 := by
  unfold inodeFault at h
  split at h
  · split at h
    · exact absurd h (by decide)
    · split at h
      · omega
      · split at h
        · unfold dirFault at h
          split at h
          · exact absurd h (by decide)
          · omega
        · omega
  · exact absurd h (by decide)
def cntE (a : Int) (e : DEnt) : Nat := if e.ino = a then 1 else 0
def linksIn (a : Int) (x : DInode) : Nat := sumF (cntE a) x.ents
def linksOf (xs : List DInode) (a : Int) : Nat := sumF (linksIn a) xs
theorem sumF_bnd {α : Type} {f : α → Nat} {B : Nat} : ∀ {xs : List α}, (∀ x, x ∈ xs → f x ≤ B) → sumF f xs ≤ xs.length * B
  | [], _ => Nat.zero_le _
  | x :: xs, h => by
    have h1 := h x List.mem_cons_self
    have h2 := sumF_bnd (xs := xs) (fun y hy => h y (List.mem_cons_of_mem _ hy))
    simp only [sumF, List.length_cons, Nat.succ_mul]
    omega
theorem cntE_1 (a : Int) (e : DEnt) : cntE a e ≤ 1 := by unfold cntE; split <;> omega
theorem links_60 {xs : List DInode} (h : inodesFault xs = 0) (a : Int) : linksOf xs a ≤ 60 := by
  have h1 : linksOf xs a ≤ xs.length * 6 := sumF_bnd fun x hx => by
    have h2 : linksIn a x ≤ x.ents.length * 1 := sumF_bnd fun e _ => cntE_1 a e
    have h3 := ents_6 (inodes_all h x hx)
    omega
  have := inodes_10 h
  omega
def freeAt (xs : List DInode) : Int := match xs.findIdx? (fun x => decide (x.kind = 0)) with | some i => i | none => if xs.length = 10 then -1 else xs.length
theorem freeAt_i {xs : List DInode} {k : Nat} {x : DInode} (hx : xs[k]? = some x) (h : x.kind = 0) (ha : ∀ j y, j < k → xs[j]? = some y → ¬ y.kind = 0) : freeAt xs = (k : Int) := by
  have : xs.findIdx? (fun x => decide (x.kind = 0)) = some k := by
    obtain ⟨hk, rfl⟩ := List.getElem?_eq_some_iff.1 hx
    exact List.findIdx?_eq_some_iff_getElem.2 ⟨hk, decide_eq_true h, fun j hj => by
      have := ha j _ hj (List.getElem?_eq_getElem (by omega))
      simpa using this⟩
  unfold freeAt
  rw [this]
theorem free_none {xs : List DInode} {q : Nat} (hq : xs.length ≤ q) (ha : ∀ j y, j < q → xs[j]? = some y → ¬ y.kind = 0) : xs.findIdx? (fun x => decide (x.kind = 0)) = none := by
  rw [List.findIdx?_eq_none_iff]
  intro y hy
  obtain ⟨j, hj⟩ := List.mem_iff_getElem?.1 hy
  have := ha j y (by have := (List.getElem?_eq_some_iff.1 hj).1; omega) hj
  simpa using this
theorem freeAt_l {xs : List DInode} {q : Nat} (hq : xs.length ≤ q) (ha : ∀ j y, j < q → xs[j]? = some y → ¬ y.kind = 0) (h : (xs.length : Int) < 10) : freeAt xs = (xs.length : Int) := by
  unfold freeAt; rw [free_none hq ha]; simp only; rw [if_neg (by omega)]
theorem freeAt_n {xs : List DInode} {q : Nat} (hq : xs.length ≤ q) (ha : ∀ j y, j < q → xs[j]? = some y → ¬ y.kind = 0) (h : ¬ (xs.length : Int) < 10) (h10 : xs.length ≤ 10) : freeAt xs = -1 := by
  unfold freeAt; rw [free_none hq ha]; simp only; rw [if_pos (by omega)]
end Go.Proofs.YtmejbfmhaoilmaaGreat
/- What is proved: blocks that are used, free and picked, in plain Lean. No condition. -/
namespace Go.Proofs.YtmejbfmhaoilmaaGreat
open Go Go.RowKit
set_option linter.unusedVariables false
set_option linter.unusedSimpArgs false
def usedL (xs : List DInode) : List Int := (xs.map (·.blocks)).flatten
def sortI (l : List Int) : List Int := l.mergeSort (fun x y => decide (x ≤ y))
theorem sortI_perm (l : List Int) : (sortI l).Perm l := List.mergeSort_perm ..
theorem sortI_len (l : List Int) : (sortI l).length = l.length := (sortI_perm l).length_eq
theorem sortI_mem {l : List Int} {a : Int} : a ∈ sortI l ↔ a ∈ l := (sortI_perm l).mem_iff
theorem sortI_sorted (l : List Int) : (sortI l).Pairwise (· ≤ ·) := by
  have := List.pairwise_mergeSort (le := fun (x y : Int) => decide (x ≤ y)) (fun a b c h k => by simp at *; omega) (fun a b => by simp; omega) l
  exact this.imp (fun h => by simpa using h)
theorem usedL_take {xs : List DInode} {k : Nat} {x : DInode} (h : xs[k]? = some x) : usedL (xs.take k) ++ x.blocks = usedL (xs.take (k + 1)) := by
  unfold usedL
  rw [← take_snoc h]
  simp
theorem compact_len (zs : List Int) : (Lib.compact zs).length ≤ zs.length := by
  unfold Lib.compact Lib.compactUpTo
  rw [List.length_map]
  exact Nat.le_trans (List.length_filter_le _ _) (by simp)
theorem compact_nodup {zs : List Int} (h : zs.Nodup) : (Lib.compact zs).length = zs.length := by
  rw [Lib.compact_all zs]
  intro j hj
  by_cases h0 : j = 0
  · simp [Lib.keeps, h0]
  · refine Lib.keeps_pos ?_
    rw [getElem!_pos zs.toArray j (by simpa using hj), getElem!_pos zs.toArray (j - 1) (by simp; omega)]
    intro e
    have := List.pairwise_iff_getElem.1 (List.nodup_iff_pairwise_ne.1 h) (j - 1) j (by omega) hj (by omega)
    exact this (by simpa using e.symm)
theorem compact_dup {zs : List Int} (hs : zs.Pairwise (· ≤ ·)) (h : ¬ zs.Nodup) : (Lib.compact zs).length < zs.length := by
  -- a place whose left neighbour holds the same
  have hex : ∃ j, 0 < j ∧ ∃ h1 : j < zs.length, zs[j] = zs[j - 1] := by
    apply Classical.byContradiction
    intro hno
    apply h
    have hlt : ∀ (d i : Nat) (h1 : i + d + 1 < zs.length), zs[i] < zs[i + d + 1] := by
      intro d
      induction d with
      | zero =>
        intro i h1
        have h2 : zs[i] ≤ zs[i + 1] := List.pairwise_iff_getElem.1 hs i (i + 1) (by omega) h1 (by omega)
        have h3 : zs[i + 1] ≠ zs[i] := fun e => hno ⟨i + 1, by omega, h1, by simpa using e⟩
        simp only [Nat.add_zero]
        omega
      | succ d ih =>
        intro i h1
        have h2 := ih i (by omega)
        have h4 : zs[i + d + 1] ≤ zs[i + d + 1 + 1] := List.pairwise_iff_getElem.1 hs (i + d + 1) (i + d + 1 + 1) (by omega) (by omega) (by omega)
        have e : i + (d + 1) + 1 = i + d + 1 + 1 := by omega
        simp only [e]
        omega
    rw [List.nodup_iff_pairwise_ne, List.pairwise_iff_getElem]
    intro i j hi hj hij
    have := hlt (j - i - 1) i (by omega)
    have e : i + (j - i - 1) + 1 = j := by omega
    simp only [e] at this
    omega
  obtain ⟨j, hj0, hj, he⟩ := hex
  have hk : Lib.keeps zs.toArray j = false := by
    refine Lib.keeps_neg hj0 ?_
    rw [getElem!_pos zs.toArray j (by simpa using hj), getElem!_pos zs.toArray (j - 1) (by simp; omega)]
    simpa using he
  unfold Lib.compact Lib.compactUpTo
  rw [List.length_map]
  have := List.length_filter_lt_length_iff_exists (l := List.range zs.length) (p := Lib.keeps zs.toArray)
  rw [List.length_range] at this
  exact this.2 ⟨j, List.mem_range.2 hj, by rw [hk]; exact Bool.false_ne_true⟩
theorem compact_iff (l : List Int) : ((Lib.compact (sortI l)).length = (sortI l).length) ↔ l.Nodup := by
  constructor
  · intro h
    apply Classical.byContradiction
    intro hn
    have := compact_dup (sortI_sorted l) (fun h2 => hn ((sortI_perm l).nodup_iff.1 h2))
    omega
  · intro h
    exact compact_nodup ((sortI_perm l).nodup_iff.2 h)
def oneB (a b : Int) : Nat := if b = a then 1 else 0
def cntB (a : Int) (x : DInode) : Nat := sumF (oneB a) x.blocks
def countB (xs : List DInode) (a : Int) : Nat := sumF (cntB a) xs
theorem sum_count (a : Int) : ∀ l : List Int, sumF (oneB a) l = l.count a
  | [] => rfl
  | b :: l => by
    simp only [sumF, sum_count a l, List.count_cons, oneB, beq_iff_eq]
    omega
theorem countB_eq (a : Int) : ∀ xs : List DInode, countB xs a = (usedL xs).count a
  | [] => rfl
  | x :: xs => by
    have ih := countB_eq a xs
    unfold countB usedL at ih ⊢
    simp only [sumF, List.map_cons, List.flatten_cons, List.count_append, ← ih, cntB, sum_count]
theorem blocks_4 {x : DInode} (h : inodeFault x = 0) : x.blocks.length ≤ 4 ∧ ∀ b, b ∈ x.blocks → 0 ≤ b ∧ b ≤ 19 := by
  unfold inodeFault at h
  split at h
  · split at h
    · exact absurd h (by decide)
    · rename_i h1 h2
      split at h
      · unfold fileFault at h
        split at h
        · split at h
          · split at h
            · exact absurd h (by decide)
            · rename_i h3 h4 h5
              refine ⟨by omega, fun b hb => ?_⟩
              simp only [List.any_eq_true, not_exists, not_and] at h5
              have := h5 b hb
              simpa using this
          · exact absurd h (by decide)
        · exact absurd h (by decide)
      · have h0 : x.blocks.length = 0 := by omega
        exact ⟨by omega, fun b hb => by rw [List.length_eq_zero_iff.1 h0] at hb; cases hb⟩
  · exact absurd h (by decide)
theorem usedL_mem {xs : List DInode} (h : inodesFault xs = 0) {b : Int} (hb : b ∈ usedL xs) : 0 ≤ b ∧ b ≤ 19 := by
  unfold usedL at hb
  obtain ⟨l, hl, hb⟩ := List.mem_flatten.1 hb
  obtain ⟨x, hx, rfl⟩ := List.mem_map.1 hl
  exact (blocks_4 (inodes_all h x hx)).2 b hb
theorem usedL_len {xs : List DInode} (h : ∀ x, x ∈ xs → inodeFault x = 0) : (usedL xs).length ≤ xs.length * 4 := by
  induction xs with
  | nil => simp [usedL]
  | cons x xs ih =>
    have h1 := (blocks_4 (h x List.mem_cons_self)).1
    have h2 := ih (fun y hy => h y (List.mem_cons_of_mem _ hy))
    unfold usedL at h2 ⊢
    simp only [List.map_cons, List.flatten_cons, List.length_append, List.length_cons]
    omega
theorem usedL_40 {xs : List DInode} (h : inodesFault xs = 0) (k : Nat) : (usedL (xs.take k)).length ≤ 40 := by
  have h1 := usedL_len (xs := xs.take k) (fun x hx => inodes_all h x (List.mem_of_mem_take hx))
  have h2 := inodes_10 h
  rw [List.length_take] at h1
  omega
theorem count_40 {xs : List DInode} (h : inodesFault xs = 0) (a : Int) : countB xs a ≤ 40 := by
  rw [countB_eq]
  have := usedL_40 h xs.length
  rw [List.take_length] at this
  exact Nat.le_trans List.count_le_length this
def placesTo (p : Int → Bool) (k : Nat) : List Int := ((List.range k).map (fun i : Nat => (i : Int))).filter p
theorem placesTo_on {p : Int → Bool} {k : Nat} (h : p (k : Int) = true) : placesTo p k ++ [(k : Int)] = placesTo p (k + 1) := by
  unfold placesTo
  rw [List.range_succ]
  simp [h]
theorem placesTo_off {p : Int → Bool} {k : Nat} (h : p (k : Int) = false) : placesTo p k = placesTo p (k + 1) := by
  unfold placesTo
  rw [List.range_succ]
  simp [h]
theorem placesTo_len {p : Int → Bool} {k : Nat} : (placesTo p k).length ≤ k := by
  unfold placesTo
  exact Nat.le_trans (List.length_filter_le _ _) (by simp)
theorem placesTo_mem {p : Int → Bool} {k : Nat} {a : Int} : a ∈ placesTo p k ↔ (0 ≤ a ∧ a < k) ∧ p a = true := by
  unfold placesTo
  rw [List.mem_filter, List.mem_map]
  constructor
  · rintro ⟨⟨i, hi, rfl⟩, hp⟩
    have := List.mem_range.1 hi
    exact ⟨⟨by omega, by omega⟩, hp⟩
  · rintro ⟨⟨h1, h2⟩, hp⟩
    exact ⟨⟨a.toNat, List.mem_range.2 (by omega), by omega⟩, hp⟩
theorem placesTo_congr {p q : Int → Bool} {k : Nat} (h : ∀ a : Int, 0 ≤ a → a < k → p a = q a) : placesTo p k = placesTo q k := by
  unfold placesTo
  refine List.filter_congr fun a ha => ?_
  obtain ⟨i, hi, rfl⟩ := List.mem_map.1 ha
  have := List.mem_range.1 hi
  exact h _ (by omega) (by omega)
def onceTo (xs : List DInode) (k : Nat) : Prop := ∀ j, j < k → countB xs (j : Int) ≤ 1
instance (xs : List DInode) (k : Nat) : Decidable (onceTo xs k) := by unfold onceTo; infer_instance
theorem onceTo_s {xs : List DInode} {k : Nat} : onceTo xs (k + 1) ↔ onceTo xs k ∧ countB xs (k : Int) ≤ 1 := by
  unfold onceTo
  constructor
  · intro h
    exact ⟨fun j hj => h j (by omega), h k (by omega)⟩
  · rintro ⟨h1, h2⟩ j hj
    by_cases hk : j = k
    · subst hk; exact h2
    · exact h1 j (by omega)
theorem onceTo_20 {xs : List DInode} (h : inodesFault xs = 0) : onceTo xs 20 ↔ (usedL xs).Nodup := by
  rw [List.nodup_iff_count]
  constructor
  · intro ho a
    by_cases ha : a ∈ usedL xs
    · have hb := usedL_mem h ha
      have := ho a.toNat (by omega)
      rw [show ((a.toNat : Nat) : Int) = a by omega, countB_eq] at this
      exact this
    · rw [List.count_eq_zero_of_not_mem ha]; omega
  · intro hn j _
    rw [countB_eq]
    exact hn _
abbrev usedP (xs : List DInode) : Int → Bool := fun a => decide (0 < countB xs a)
abbrev freeP (xs : List DInode) (busy : List Int) : Int → Bool := fun b => decide (¬ b ∈ usedL xs ∧ ¬ b ∈ busy)
theorem count_0 {xs : List DInode} {a : Int} : (countB xs a : Int) = 0 ↔ ¬ a ∈ usedL xs := by
  rw [countB_eq]
  constructor
  · intro h ha
    have := List.count_pos_iff.2 ha
    omega
  · intro h
    rw [List.count_eq_zero_of_not_mem h]
    rfl
def freeTo (xs : List DInode) (busy : List Int) : List Int := placesTo (freeP xs busy) 20
def askFault (xs : List DInode) (busy : List Int) : Int := if inodesFault xs = 0 then busyFault busy else inodesFault xs
theorem ask_ok {xs : List DInode} {busy : List Int} (h : askFault xs busy = 0) : inodesFault xs = 0 := by
  unfold askFault at h
  split at h
  · assumption
  · exact h
def pickOf (xs : List DInode) (busy : List Int) (n : Int) : RInts := if 0 ≤ n ∧ n ≤ 4 then if ((freeTo xs busy).length : Int) < n then ⟨8, []⟩ else ⟨0, (freeTo xs busy).take n.toNat⟩ else ⟨3, []⟩
theorem pickOf_3 {xs : List DInode} {busy : List Int} {n : Int} (h : ¬ (0 ≤ n ∧ n ≤ 4)) : pickOf xs busy n = ⟨3, []⟩ := if_neg h
theorem pickOf_8 {xs : List DInode} {busy : List Int} {n : Int} (h : 0 ≤ n ∧ n ≤ 4) (h2 : ((freeTo xs busy).length : Int) < n) : pickOf xs busy n = ⟨8, []⟩ := by unfold pickOf; rw [if_pos h, if_pos h2]
theorem pickOf_0 {xs : List DInode} {busy : List Int} {n : Int} (h : 0 ≤ n ∧ n ≤ 4) (h2 : ¬ ((freeTo xs busy).length : Int) < n) : pickOf xs busy n = ⟨0, (freeTo xs busy).take n.toNat⟩ := by unfold pickOf; rw [if_pos h, if_neg h2]
def pickR (xs : List DInode) (busy : List Int) (n : Int) : RInts := if askFault xs busy = 0 then pickOf xs busy n else ⟨askFault xs busy, []⟩
theorem pickR_f {xs : List DInode} {busy : List Int} {n : Int} (h : ¬ askFault xs busy = 0) : pickR xs busy n = ⟨askFault xs busy, []⟩ := if_neg h
theorem pickR_0 {xs : List DInode} {busy : List Int} {n : Int} (h : askFault xs busy = 0) : pickR xs busy n = pickOf xs busy n := if_pos h
end Go.Proofs.YtmejbfmhaoilmaaGreat
/- What is proved: the words of an inode, and an inode read back, in plain Lean. No condition. -/
namespace Go.Proofs.YtmejbfmhaoilmaaGreat
open Go Go.RowKit
set_option linter.unusedVariables false
set_option linter.unusedSimpArgs false
theorem ents_ok {x : DInode} (h : inodeFault x = 0) : ∀ (j : Nat) e, x.ents[j]? = some e → nameFault e.name = 0 ∧ 0 ≤ e.ino ∧ e.ino ≤ 9 := by
  unfold inodeFault at h
  split at h
  · split at h
    · exact absurd h (by decide)
    · rename_i h1 h2
      intro j e he
      have hj := (List.getElem?_eq_some_iff.1 he).1
      split at h
      · omega
      · split at h
        · unfold dirFault at h
          split at h
          · exact absurd h (by decide)
          · have h3 := firstF_all h j (List.mem_range.2 hj)
            unfold entAt at h3
            rw [he] at h3
            simp only [entOk] at h3
            split at h3
            · split at h3
              · rename_i h4 h5; exact ⟨h4, h5⟩
              · exact absurd h3 (by decide)
            · contradiction
        · omega
  · exact absurd h (by decide)
end Go.Proofs.YtmejbfmhaoilmaaGreat
/- What is proved: a tree's faults, what a name leads to, in plain Lean. No condition. -/
namespace Go.Proofs.YtmejbfmhaoilmaaGreat
open Go Go.RowKit
set_option linter.unusedVariables false
set_option linter.unusedSimpArgs false
def kindAt (xs : List DInode) (i : Int) : Int := match xs[i.toNat]? with | some x => x.kind | none => 0
theorem kind_at {xs : List DInode} {i : Int} {j : Nat} {x : DInode} (hx : xs[j]? = some x) (h : i = (j : Int)) : kindAt xs i = x.kind := by
  subst h
  unfold kindAt
  rw [Int.toNat_natCast, hx]
theorem kind_out {xs : List DInode} {i : Int} (h : (xs.length : Int) ≤ i) : kindAt xs i = 0 := by
  unfold kindAt
  rw [List.getElem?_eq_none (by omega)]
abbrev entBad (xs : List DInode) (e : DEnt) : Prop := kindAt xs e.ino = 0
def rootFault (f : DFs) : Int := if inodesFault f.inodes = 0 then if f.inodes.length = 0 ∨ ¬ kindAt f.inodes 0 = 2 ∨ ¬ f.data.length = 20 then 1 else 0 else inodesFault f.inodes
theorem rootFault_f {f : DFs} (h : ¬ inodesFault f.inodes = 0) : rootFault f = inodesFault f.inodes := if_neg h
theorem rootFault_1 {f : DFs} (h : inodesFault f.inodes = 0) (h2 : f.inodes.length = 0 ∨ ¬ kindAt f.inodes 0 = 2 ∨ ¬ f.data.length = 20) : rootFault f = 1 := by unfold rootFault; rw [if_pos h, if_pos h2]
theorem rootFault_0 {f : DFs} (h : inodesFault f.inodes = 0) (h1 : ¬ f.inodes.length = 0) (h2 : kindAt f.inodes 0 = 2) (h3 : f.data.length = 20) : rootFault f = 0 := by unfold rootFault; rw [if_pos h, if_neg (by omega)]
theorem rootOk {f : DFs} (h : rootFault f = 0) : inodesFault f.inodes = 0 ∧ 0 < f.inodes.length ∧ kindAt f.inodes 0 = 2 ∧ f.data.length = 20 := by
  unfold rootFault at h
  split at h
  · split at h
    · exact absurd h (by decide)
    · rename_i h1 h2; exact ⟨h1, by omega, by omega, by omega⟩
  · contradiction
def bigD (f : DFs) : Bool := f.data.any (fun b => decide ((8 : Int) < (b.length : Int)))
def badE (f : DFs) : Bool := f.inodes.any (fun x => x.ents.any (fun e => decide (entBad f.inodes e)))
def treeFault (f : DFs) : Int := if rootFault f = 0 then if bigD f = true then 2 else if (usedL f.inodes).Nodup then if badE f = true then 4 else 0 else 7 else rootFault f
theorem treeFault_r {f : DFs} (h : ¬ rootFault f = 0) : treeFault f = rootFault f := if_neg h
theorem treeFault_2 {f : DFs} (h : rootFault f = 0) (h2 : bigD f = true) : treeFault f = 2 := by unfold treeFault; rw [if_pos h, if_pos h2]
theorem treeFault_7 {f : DFs} (h : rootFault f = 0) (h2 : bigD f = false) (h3 : ¬ (usedL f.inodes).Nodup) : treeFault f = 7 := by unfold treeFault; rw [if_pos h, if_neg (by rw [h2]; decide), if_neg h3]
theorem treeFault_4 {f : DFs} (h : rootFault f = 0) (h2 : bigD f = false) (h3 : (usedL f.inodes).Nodup) (h4 : badE f = true) : treeFault f = 4 := by unfold treeFault; rw [if_pos h, if_neg (by rw [h2]; decide), if_pos h3, if_pos h4]
theorem treeFault_0 {f : DFs} (h : rootFault f = 0) (h2 : bigD f = false) (h3 : (usedL f.inodes).Nodup) (h4 : badE f = false) : treeFault f = 0 := by unfold treeFault; rw [if_pos h, if_neg (by rw [h2]; decide), if_pos h3, if_neg (by rw [h4]; decide)]
theorem bigD_yes {f : DFs} {k : Nat} {b : List UInt8} (hb : f.data[k]? = some b) (h : (8 : Int) < (b.length : Int)) : bigD f = true := List.any_eq_true.2 ⟨b, List.mem_of_getElem? hb, decide_eq_true h⟩
theorem bigD_no {f : DFs} (h : ∀ j b, j < f.data.length → f.data[j]? = some b → ¬ (8 : Int) < (b.length : Int)) : bigD f = false := by
  unfold bigD
  rw [List.any_eq_false]
  intro b hb
  obtain ⟨j, hj⟩ := List.mem_iff_getElem?.1 hb
  rw [decide_eq_false (h j b (List.getElem?_eq_some_iff.1 hj).1 hj)]
  decide
theorem badE_yes {f : DFs} {k q : Nat} {x : DInode} {e : DEnt} (hx : f.inodes[k]? = some x) (he : x.ents[q]? = some e) (h : entBad f.inodes e) : badE f = true :=
  List.any_eq_true.2 ⟨x, List.mem_of_getElem? hx, List.any_eq_true.2 ⟨e, List.mem_of_getElem? he, decide_eq_true h⟩⟩
abbrev goodX (xs : List DInode) (x : DInode) : Prop := ∀ (j : Nat) (e : DEnt), x.ents[j]? = some e → ¬ entBad xs e
theorem badE_no {f : DFs} (h : ∀ j x, j < f.inodes.length → f.inodes[j]? = some x → goodX f.inodes x) : badE f = false := by
  unfold badE
  rw [List.any_eq_false]
  intro x hx
  obtain ⟨j, hj⟩ := List.mem_iff_getElem?.1 hx
  have h1 := h j x (List.getElem?_eq_some_iff.1 hj).1 hj
  rw [Bool.not_eq_true, List.any_eq_false]
  intro e he
  obtain ⟨i, hi⟩ := List.mem_iff_getElem?.1 he
  rw [decide_eq_false (h1 i e hi)]
  decide
theorem treeOk {f : DFs} (h : treeFault f = 0) : rootFault f = 0 ∧ bigD f = false ∧ (usedL f.inodes).Nodup ∧ badE f = false := by
  unfold treeFault at h
  split at h
  · split at h
    · exact absurd h (by decide)
    · split at h
      · split at h
        · exact absurd h (by decide)
        · rename_i h1 h2 h3 h4; exact ⟨h1, by simpa using h2, h3, by simpa using h4⟩
      · exact absurd h (by decide)
  · contradiction
theorem treeI {f : DFs} (h : treeFault f = 0) : inodesFault f.inodes = 0 := (rootOk (treeOk h).1).1
theorem good_of {f : DFs} (h : badE f = false) {k : Nat} {x : DInode} (hx : f.inodes[k]? = some x) : goodX f.inodes x := fun j e he hb => by
  have := badE_yes hx he hb
  rw [h] at this
  cases this
theorem ent_in {xs : List DInode} {e : DEnt} (h : ¬ entBad xs e) : e.ino < (xs.length : Int) := by
  apply Classical.byContradiction
  intro hn
  exact h (kind_out (by omega))
def dirCode (f : DFs) (a : Int) : Int := if treeFault f = 0 then if placeIn f.inodes.length a then if kindAt f.inodes a = 2 then 0 else 9 else 3 else treeFault f
theorem dirCode_f {f : DFs} {a : Int} (h : ¬ treeFault f = 0) : dirCode f a = treeFault f := if_neg h
theorem dirCode_3 {f : DFs} {a : Int} (h : treeFault f = 0) (h2 : ¬ placeIn f.inodes.length a) : dirCode f a = 3 := by unfold dirCode; rw [if_pos h, if_neg h2]
theorem dirCode_9 {f : DFs} {a : Int} (h : treeFault f = 0) (h2 : placeIn f.inodes.length a) (h3 : ¬ kindAt f.inodes a = 2) : dirCode f a = 9 := by unfold dirCode; rw [if_pos h, if_pos h2, if_neg h3]
theorem dirCode_0 {f : DFs} {a : Int} (h : treeFault f = 0) (h2 : placeIn f.inodes.length a) (h3 : kindAt f.inodes a = 2) : dirCode f a = 0 := by unfold dirCode; rw [if_pos h, if_pos h2, if_pos h3]
theorem dirOk {f : DFs} {a : Int} (h : dirCode f a = 0) : treeFault f = 0 ∧ placeIn f.inodes.length a ∧ kindAt f.inodes a = 2 := by
  unfold dirCode at h
  split at h
  · split at h
    · split at h
      · rename_i h1 h2 h3; exact ⟨h1, h2, h3⟩
      · exact absurd h (by decide)
    · exact absurd h (by decide)
  · contradiction
def entsAt (xs : List DInode) (a : Int) : List DEnt := match xs[a.toNat]? with | some x => x.ents | none => []
theorem ents_at {xs : List DInode} {a : Int} {j : Nat} {x : DInode} (hx : xs[j]? = some x) (h : a = (j : Int)) : entsAt xs a = x.ents := by
  subst h
  unfold entsAt
  rw [Int.toNat_natCast, hx]
abbrev nameP (s : ByteArray) : DEnt → Bool := fun e => decide (e.name = s)
def lookI (es : List DEnt) (s : ByteArray) : Int := match es.find? (nameP s) with | some e => e.ino | none => -1
theorem lookI_hit {es : List DEnt} {s : ByteArray} {k : Nat} {e : DEnt} (he : es[k]? = some e) (h : e.name = s) (ha : ∀ j x, j < k → es[j]? = some x → ¬ x.name = s) : lookI es s = e.ino := by
  have : es.find? (nameP s) = some e := by
    obtain ⟨hk, rfl⟩ := List.getElem?_eq_some_iff.1 he
    refine List.find?_eq_some_iff_getElem.2 ⟨decide_eq_true h, k, hk, rfl, fun j hj => ?_⟩
    have := ha j _ hj (List.getElem?_eq_getElem (by omega))
    simpa using this
  unfold lookI
  rw [this]
theorem idxF_rng {α : Type} (p : α → Bool) (xs : List α) : idxF p xs < (xs.length : Int) ∧ -1 ≤ idxF p xs := by
  unfold idxF
  cases h : xs.findIdx? p with
  | none => simp only; omega
  | some i =>
    have := (List.findIdx?_eq_some_iff_getElem.1 h).1
    simp only; omega
theorem look_at {es : List DEnt} {s : ByteArray} {x : DEnt} (h : ¬ idxF (nameP s) es < 0) (hx : es[Int.toNat (idxF (nameP s) es)]? = some x) : lookI es s = x.ino := by
  unfold idxF at h hx
  cases hf : es.findIdx? (nameP s) with
  | none => rw [hf] at h; exact absurd (by decide : (-1 : Int) < 0) h
  | some i =>
    rw [hf] at hx
    simp only [Int.toNat_natCast] at hx
    obtain ⟨hi, hp, hn⟩ := List.findIdx?_eq_some_iff_getElem.1 hf
    obtain ⟨h1, rfl⟩ := List.getElem?_eq_some_iff.1 hx
    refine lookI_hit hx (of_decide_eq_true hp) fun j y hj hy => ?_
    obtain ⟨h2, rfl⟩ := List.getElem?_eq_some_iff.1 hy
    have := hn j hj
    simpa using this
theorem look_none {es : List DEnt} {s : ByteArray} (h : idxF (nameP s) es < 0) : lookI es s = -1 := by
  unfold idxF at h
  cases hf : es.findIdx? (nameP s) with
  | some i => rw [hf] at h; simp only at h; omega
  | none =>
    have : es.find? (nameP s) = none := List.find?_eq_none.2 fun x hx => by
      have := List.findIdx?_eq_none_iff.1 hf x hx
      simpa using this
    unfold lookI
    rw [this]
def namesTo (es : List DEnt) (k : Nat) : List ByteArray := (es.take k).map (·.name)
theorem namesTo_s {es : List DEnt} {k : Nat} {e : DEnt} (h : es[k]? = some e) : namesTo es k ++ [e.name] = namesTo es (k + 1) := by
  unfold namesTo
  rw [← take_snoc h, List.map_append]
  rfl
theorem namesTo_len {es : List DEnt} {k : Nat} : (namesTo es k).length ≤ es.length := by
  unfold namesTo; rw [List.length_map, List.length_take]; omega
def namesOf (es : List DEnt) : List ByteArray := es.map (·.name)
theorem namesTo_all {es : List DEnt} {k : Nat} (h : es.length ≤ k) : namesTo es k = namesOf es := by unfold namesTo namesOf; rw [List.take_of_length_le h]
def namesR (f : DFs) (a : Int) : RNames := if dirCode f a = 0 then ⟨0, namesOf (entsAt f.inodes a)⟩ else ⟨dirCode f a, []⟩
theorem namesR_f {f : DFs} {a : Int} (h : ¬ dirCode f a = 0) : namesR f a = ⟨dirCode f a, []⟩ := if_neg h
theorem namesR_0 {f : DFs} {a : Int} (h : dirCode f a = 0) : namesR f a = ⟨0, namesOf (entsAt f.inodes a)⟩ := if_pos h
def emptyDir (f : DFs) (a : Int) : Prop := dirCode f a = 0 ∧ (entsAt f.inodes a).length = 0
instance (f : DFs) (a : Int) : Decidable (emptyDir f a) := by unfold emptyDir; infer_instance
end Go.Proofs.YtmejbfmhaoilmaaGreat
/- What is proved: elements taken out of a slice of one's own, in place. No condition. -/
namespace Go.Proofs.YtmejbfmhaoilmaaGreat
open Go Go.RowKit
set_option linter.unusedVariables false
set_option linter.unusedSimpArgs false
theorem Star.sublist {l l' : List Asn} (h : l'.Sublist l) : ∀ {w : World} {S : Bs}, Star l w S → Star l' w S := by
  induction h with
  | slnil => exact fun h => h
  | cons c _ ih => exact fun h => ih h.drop
  | cons_cons c _ ih =>
    intro w S ⟨A, B, h1, h2, a, b, d⟩
    exact ⟨A, B, h1, ih h2, a, b, d⟩
theorem flatten_take {css : List (List Value)} {n : Nat} (hl : ∀ c, c ∈ css → c.length = n) (i : Nat) : (css.take i).flatten = css.flatten.take (i * n) := by
  induction css generalizing i with
  | nil => simp
  | cons d css ih =>
    have hd := hl d List.mem_cons_self
    cases i with
    | zero => simp
    | succ i =>
      simp only [List.take_succ_cons, List.flatten_cons]
      rw [ih (fun c hc => hl c (List.mem_cons_of_mem _ hc)) i, List.take_append, List.take_of_length_le (l := d) (by rw [hd, Nat.succ_mul]; omega), hd, Nat.succ_mul, Nat.add_sub_cancel]
section
variable {P : Program} {T : Slots} {Wd : World → Prop} {o : Oper} {N : Nat} {w0 : World} {S0 : Bs} {l l' lk : List Asn}
end
end Go.Proofs.YtmejbfmhaoilmaaGreat
/- What is proved: the library's contracts of Sort and Compact over rows of numbers, told of one's own slice. No condition. -/
namespace Go.Proofs.YtmejbfmhaoilmaaGreat
open Go Go.RowKit
open Go.Sort (putRow grow putCells mapBlock)
set_option linter.unusedVariables false
set_option linter.unusedSimpArgs false
theorem kint_cells {k : IntKind} {w : World} {S : Bs} : ∀ {zs : List Int} {css : List (List Value)}, css.length = zs.length → Star (seqA (kint k) zs css) w S → css = zs.map (fun z => [Value.int k z])
  | [], [], _, _ => rfl
  | z :: zs, c :: css, hl, h => by
    have h1 : (kint k).own w S z c := h.head (c := ownA (kint k) z c)
    rw [kint_cells (by simpa using hl) (h.drop (c := ownA (kint k) z c)), List.map_cons, h1.1]
  | [], _ :: _, hl, _ => by simp at hl
  | _ :: _, [], hl, _ => by simp at hl
theorem kint_seq {k : IntKind} {w : World} {S : Bs} : ∀ zs : List Int, Star (seqA (kint k) zs (zs.map (fun z => [Value.int k z]))) w S
  | [] => trivial
  | z :: zs => ⟨fun _ => False, S, ⟨rfl, trivial⟩, kint_seq zs, fun _ h => h.elim, fun _ h => h, fun _ h => h.elim⟩
theorem flat1 {k : IntKind} (zs : List Int) : (zs.map (fun z => [Value.int k z])).flatten = zs.map (Value.int k) := by
  induction zs with
  | nil => rfl
  | cons z zs ih => simp [ih]
theorem own_holds {e by_ : Nat} {w : World} {S : Bs} {zs : List Int} {v : Value} (h : (kslice e by_ (kint .i64)).own w S zs [v]) (hp : 0 < zs.length) :
    ∃ g c, v = .slice (some ⟨g, 0, none⟩) zs.length c ∧ zs.length ≤ c ∧ g < w.heap.size ∧ Go.Sort.Holds (Value.int .i64) w g 0 zs.toArray ∧ zs.length * by_ ≤ 140737488355328 ∧ c ≤ 9223372036854775807 ∧
      ∀ (zs' : List Int) (n : Nat) (os : Array Obj), zs'.length = zs.length → (kslice e by_ (kint .i64)).own (grow (putRow (Value.int .i64) (Sort.ahead w n) g 0 zs'.toArray) os) S zs' [v] ∧ Fr w S (grow (putRow (Value.int .i64) (Sort.ahead w n) g 0 zs'.toArray) os) := by
  rcases h with ⟨A, h1, rfl⟩ | ⟨g, c, css, h1, h2, h3, h4, h5, h6⟩
  · exact absurd hp (by simp)
  obtain rfl : v = .slice (some ⟨g, 0, none⟩) zs.length c := by simpa using h1
  obtain ⟨S1, S2, ⟨hg, cur, k1, k2, k3, k4⟩, hseq, a1, a2, a3⟩ := h6
  have hcss := kint_cells h5 hseq
  subst hcss
  rw [flat1] at k3 k4
  simp only [List.length_map] at k3 k4
  have hlt : g < w.heap.size := (Array.getElem?_eq_some_iff.1 k1).1
  have hcell : ∀ j, j < zs.length → cur[j]? = some (.int .i64 (zs[j]!)) := fun j hj => by
    have : (cur.toList.take zs.length)[j]? = (zs.map (Value.int .i64))[j]? := by rw [k4]
    rw [List.getElem?_take, if_pos hj, List.getElem?_map, List.getElem?_eq_getElem hj] at this
    rw [Array.getElem?_toList] at this
    rw [this, getElem!_pos zs j hj]
    rfl
  refine ⟨g, c, rfl, h2, hlt, fun j hj => ⟨?_, ?_⟩, h4, h3, fun zs' n os hl => ?_⟩
  · have hj' : j < zs.length := by simpa using hj
    rw [cell_of_row w g (0 + j) cur e (0, 0) k1, Nat.zero_add, hcell j hj']
    simp [getElem!_pos zs j hj', getElem!_pos zs.toArray j hj]
  · simp [World.frozen?, k1]
  · have hb : (grow (putRow (Value.int .i64) (Sort.ahead w n) g 0 zs'.toArray) os).heap[g]? = some (.cells (putCells (Value.int .i64) 0 zs'.toArray cur) e (0, 0)) := by
      simp only [grow, putRow, mapBlock, Sort.ahead]
      rw [Array.getElem?_append_left (by simpa using hlt), Array.getElem?_modify, if_pos rfl, k1]
      rfl
    have ho : ∀ b, b < w.heap.size → b ≠ g → (grow (putRow (Value.int .i64) (Sort.ahead w n) g 0 zs'.toArray) os).heap[b]? = w.heap[b]? := fun b hb hne => by
      simp only [grow, putRow, mapBlock, Sort.ahead]
      rw [Array.getElem?_append_left (by simpa using hb), Array.getElem?_modify, if_neg (fun e => hne e.symm)]
    have hsz : w.heap.size ≤ (grow (putRow (Value.int .i64) (Sort.ahead w n) g 0 zs'.toArray) os).heap.size := by simp [grow, putRow, mapBlock, Sort.ahead]
    have hfr : Fr w S (grow (putRow (Value.int .i64) (Sort.ahead w n) g 0 zs'.toArray) os) := ⟨rfl, rfl, rfl, hsz, fun b hb hn => ho b hb (fun e => hn (e ▸ a1 g hg))⟩
    refine ⟨.inr ⟨g, c, zs'.map (fun z => [Value.int .i64 z]), by rw [hl], by omega, h3, by rw [hl]; exact h4, by simp, ?_⟩, hfr⟩
    refine ⟨S1, fun _ => False, ⟨hg, _, hb, ?_, ?_, ?_⟩, kint_seq zs', a1, fun _ h => h.elim, fun _ _ h => h⟩
    · simpa [putCells] using k2
    · rw [flat1]
      simp only [putCells, Array.size_mapIdx, List.length_map]
      omega
    · rw [flat1]
      apply List.ext_getElem?
      intro j
      rw [List.getElem?_take, List.length_map]
      split
      · rename_i hj
        have hjc : j < cur.size := by omega
        rw [Array.getElem?_toList, putCells, Array.getElem?_mapIdx, Array.getElem?_eq_getElem hjc, Option.map_some, if_pos ⟨by omega, by simpa using hj⟩, List.getElem?_map, List.getElem?_eq_getElem hj, Option.map_some]
        simp [getElem!_pos zs'.toArray j (by simpa using hj)]
      · rw [List.getElem?_eq_none (by rw [List.length_map]; omega)]
theorem own_zero {e by_ : Nat} {w : World} {S : Bs} {zs : List Int} {v : Value} (h : (kslice e by_ (kint .i64)).own w S zs [v]) (hp : ¬ 0 < zs.length) : zs = [] ∧ ∃ A c, v = .slice A 0 c := by
  have h0 : zs = [] := List.length_eq_zero_iff.1 (by omega)
  subst h0
  obtain ⟨A, c, h1, _⟩ := own_form h
  exact ⟨rfl, A, c, by simpa using h1⟩
theorem sort_con {P : Program} {f : FuncId} {e by_ : Nat} {w0 : World} {S0 : Bs} {zs : List Int} {v0 : Value}
    (h1 : ∀ (blk off cap : Nat) (zs : List Int) (w : World), Go.Sort.Holds (Value.int .i64) w blk off zs.toArray → blk < w.heap.size → zs.length < 4611686018427387904 → Calls P f #[.slice (some ⟨blk, off, none⟩) zs.length cap] w fun e w' => e = .returned (.tuple #[]) ∧ ∃ n os, w' = grow (putRow (Value.int .i64) (Sort.ahead w n) blk off (zs.mergeSort fun x y => decide (x ≤ y)).toArray) os)
    (h2 : ∀ (p : Option Addr) (cap : Nat) (w : World), Calls P f #[.slice p 0 cap] w fun e w' => e = .returned (.tuple #[]) ∧ w' = w) (h8 : 8 ≤ by_)
    (hs : Star [ownA (kslice e by_ (kint .i64)) zs [v0]] w0 S0) : Calls P f #[v0] w0 (TriPost w0 S0 (fun r l => r = .tuple #[] ∧ l = [ownA (kslice e by_ (kint .i64)) (sortI zs) [v0]])) := by
  have ho : (kslice e by_ (kint .i64)).own w0 S0 zs [v0] := hs.head (c := ownA (kslice e by_ (kint .i64)) zs [v0])
  by_cases hp : 0 < zs.length
  · obtain ⟨g, c, rfl, g1, g2, g3, g4, g5, g6⟩ := own_holds ho hp
    have hb : zs.length * 8 ≤ zs.length * by_ := Nat.mul_le_mul_left _ h8
    refine (h1 g 0 c zs w0 g3 g2 (by omega)).mono fun e' w' ⟨he, n, os, hw⟩ => ?_
    obtain ⟨k1, k2⟩ := g6 (sortI zs) n os (sortI_len zs)
    have hw' : w' = grow (putRow (Value.int .i64) (Sort.ahead w0 n) g 0 (sortI zs).toArray) os := hw
    subst hw'
    exact ⟨_, _, he, ⟨rfl, rfl⟩, S0, Star.one (c := ownA (kslice e by_ (kint .i64)) (sortI zs) _) k1, fun b hb => .inl hb, k2⟩
  · obtain ⟨rfl, A, c, rfl⟩ := own_zero ho hp
    refine (h2 A c w0).mono fun e' w' ⟨he, hw⟩ => ?_
    subst hw
    have e0 : sortI [] = [] := by simp [sortI]
    exact ⟨_, _, he, ⟨rfl, rfl⟩, S0, by rw [e0]; exact hs, fun b hb => .inl hb, Fr.refl _ _⟩
theorem grow_nil (w : World) : grow w #[] = w := by cases w; simp [grow]
theorem compact_con {P : Program} {f : FuncId} {e by_ : Nat} {w0 : World} {S0 : Bs} {zs : List Int} {v0 : Value}
    (h1 : ∀ (blk off cap : Nat) (zs : List Int) (w : World), Go.Sort.Holds (Value.int .i64) w blk off zs.toArray → zs.length ≤ 9223372036854775807 → zs.length ≤ cap → Calls P f #[.slice (some ⟨blk, off, none⟩) zs.length cap] w fun e w' => e = .returned (.slice (some ⟨blk, off, none⟩) (Lib.compact zs).length cap) ∧ ∃ q, w' = putRow (Value.int .i64) (Sort.ahead w q) blk off (Lib.compact zs ++ List.replicate (zs.length - (Lib.compact zs).length) 0).toArray)
    (h2 : ∀ (a : Option Addr) (cap : Nat) (w : World), Calls P f #[.slice a 0 cap] w fun e w' => e = .returned (.slice a 0 cap) ∧ w' = w)
    (hs : Star [ownA (kslice e by_ (kint .i64)) zs [v0]] w0 S0) : Calls P f #[v0] w0 (TriPost w0 S0 (fun r l => ∃ z : Option Addr × Nat, r = .slice z.1 (Lib.compact zs).length z.2 ∧ l = [])) := by
  have ho : (kslice e by_ (kint .i64)).own w0 S0 zs [v0] := hs.head (c := ownA (kslice e by_ (kint .i64)) zs [v0])
  by_cases hp : 0 < zs.length
  · obtain ⟨g, c, rfl, g1, g2, g3, g4, g5, g6⟩ := own_holds ho hp
    refine (h1 g 0 c zs w0 g3 (by omega) g1).mono fun e' w' ⟨he, q, hw⟩ => ?_
    obtain ⟨k1, k2⟩ := g6 (Lib.compact zs ++ List.replicate (zs.length - (Lib.compact zs).length) 0) q #[] (by have := compact_len zs; simp; omega)
    have hw' : w' = grow (putRow (Value.int .i64) (Sort.ahead w0 q) g 0 (Lib.compact zs ++ List.replicate (zs.length - (Lib.compact zs).length) 0).toArray) #[] := by rw [hw, grow_nil]
    subst hw'
    exact ⟨_, _, he, ⟨(_, _), rfl, rfl⟩, S0, trivial, fun b hb => .inl hb, k2⟩
  · obtain ⟨rfl, A, c, rfl⟩ := own_zero ho hp
    refine (h2 A c w0).mono fun e' w' ⟨he, hw⟩ => ?_
    subst hw
    have e0 : (Lib.compact ([] : List Int)).length = 0 := rfl
    exact ⟨_, _, he, ⟨(A, c), by rw [e0], rfl⟩, S0, trivial, fun b hb => .inl hb, Fr.refl _ _⟩
theorem Y.chEq {N : Nat} {w0 : World} {S0 : Bs} {F : Act → World → Prop} {T : Slots} {l l' : List Asn} {c c' : Asn} (h : Take l c l') (e : c = c') (k : Y N w0 S0 F T (c' :: l')) : Y N w0 S0 F T l := by subst e; exact Y.take h k
theorem own_take {α : Type} {K : Kd α} {e by_ n c : Nat} {xs : List α} {A : Option Addr} (hn : n ≤ xs.length) (w : World) (S : Bs) (h : Star [ownA (kslice e by_ K) xs [.slice A xs.length c]] w S) : (ownA (kslice e by_ K) (xs.take n) [.slice A n c]).p w S := by
  have hl : (xs.take n).length = n := by rw [List.length_take]; omega
  rcases (show (kslice e by_ K).own w S xs [.slice A xs.length c] from h.head (c := ownA (kslice e by_ K) xs _)) with ⟨A', h1, rfl⟩ | ⟨g, c', css, h1, h2, h3, h4, h5, h6⟩
  · obtain rfl : n = 0 := by simpa using hn
    injection h1 with h1 _
    injection h1 with h1 h2 h3
    subst h3
    exact .inl ⟨A, rfl, rfl⟩
  · injection h1 with h1 _
    injection h1 with h1 _ h3'
    subst h1; subst h3'
    obtain ⟨S1, S2, ⟨hg, cur, k1, k2, k3, k4⟩, hseq, a1, a2, a3⟩ := h6
    have hlc := seq_len h5 hseq
    have hft := flatten_take hlc n
    refine .inr ⟨g, c, css.take n, by rw [hl], by omega, h3, ?_, by rw [List.length_take, List.length_take, h5], ?_⟩
    · rw [hl]; exact Nat.le_trans (Nat.mul_le_mul_right _ hn) h4
    · refine ⟨S1, S2, ⟨hg, cur, k1, k2, ?_, ?_⟩, ?_, a1, a2, a3⟩
      · rw [hft, List.length_take]; omega
      · rw [hft, List.length_take]
        have : cur.toList.take (min (n * K.sz) css.flatten.length) = (cur.toList.take css.flatten.length).take (n * K.sz) := by rw [List.take_take]
        rw [this, k4]
      · have : seqA K (xs.take n) (css.take n) = (seqA K xs css).take n := by simp [seqA, List.take_zipWith]
        rw [this]
        exact Star.sublist (List.take_sublist _ _) hseq
theorem own_take' {α : Type} {K : Kd α} {e by_ n c : Nat} {xs : List α} {A : Option Addr} (hn : n ≤ xs.length) (w : World) (S : Bs) (h : Star [ownA (kslice e by_ K) xs [.slice A xs.length c]] w S) : (ownA (kslice e by_ K) (xs.take n) [.slice A (xs.take n).length c]).p w S := by
  have := own_take hn w S h
  rwa [show (xs.take n).length = n by rw [List.length_take]; omega]
theorem WS.ocap {w0 : World} {S0 : Bs} {l l' : List Asn} {α : Type} {K : Kd α} {e by_ : Nat} {xs : List α} {A : Option Addr} {n c : Nat} (ht : Take l (ownA (kslice e by_ K) xs [.slice A n c]) l') : ∀ w, WS w0 S0 l w → n = xs.length ∧ n ≤ c ∧ c ≤ 9223372036854775807 ∧ n * by_ ≤ 140737488355328 := fun w hw => by
  obtain ⟨A', c', h, h1, h2, h3⟩ := WS.oform ht w hw
  injection h with _ h4 h5
  subst h4; subst h5
  exact ⟨rfl, h1, h2, h3⟩
section
variable {P : Program} {T : Slots} {Wd : World → Prop} {o : Oper}
theorem q_sliceTake {x : Operand} {t e : TypeId} {sz b n c : Nat} {z : Operand} {k : IntKind} {A : Option Addr} (ho : o.op = .slice t x none (some z) none) (ht : P.underlying t = some (.slice e)) (he : (P.info? e).map (·.size) = some sz) (hx : Val T x (.slice A n c)) (hz : Val T z (.int k (b : Int))) (h : b ≤ c) : Quiet P o T Wd (.slice A b c) := by
  have := q_slice (a := 0) (b := b) (Wd := Wd) ho ht he hx (.inl ⟨rfl, rfl⟩) (.inr ⟨_, _, rfl, hz⟩) (by omega) h
  have e1 : (if c = 0 then A else A.map (·.add (0 * sz))) = A := by
    split
    · rfl
    · cases A with
      | none => rfl
      | some a => simp [Addr.add]
  rw [e1] at this
  simpa using this
end
end Go.Proofs.YtmejbfmhaoilmaaGreat
/- What is proved: what can be reached in a tree, by a stack and by rounds, in plain Lean. No condition. -/
namespace Go.Proofs.YtmejbfmhaoilmaaGreat
open Go Go.RowKit
set_option linter.unusedVariables false
set_option linter.unusedSimpArgs false
inductive Reach (xs : List DInode) (r : Nat) : Nat → Prop
  | refl : Reach xs r r
  | step {i q : Nat} {x : DInode} {e : DEnt} : Reach xs r i → xs[i]? = some x → x.ents[q]? = some e → Reach xs r e.ino.toNat
noncomputable def reachP (xs : List DInode) (r : Nat) : Int → Bool := fun a => @decide (Reach xs r a.toNat) (Classical.propDecidable _)
noncomputable def reachL (xs : List DInode) (r : Nat) : List Int := placesTo (reachP xs r) xs.length
theorem reachP_iff {xs : List DInode} {r : Nat} {a : Int} : reachP xs r a = true ↔ Reach xs r a.toNat := by
  unfold reachP
  exact @decide_eq_true_iff _ (Classical.propDecidable _)
abbrev On (b : List Bool) (i : Nat) : Prop := b[i]? = some true
theorem on_set {b : List Bool} {j i : Nat} (hj : j < b.length) : On (b.set j true) i ↔ (i = j ∨ On b i) := by
  unfold On
  rw [List.getElem?_set]
  by_cases h : j = i
  · subst h; simp [hj]
  · rw [if_neg h]
    constructor
    · exact .inr
    · rintro (rfl | h2)
      · exact absurd rfl h
      · exact h2
theorem reach_sub {xs : List DInode} {r : Nat} {S : Nat → Prop} (h0 : S r) (hc : ∀ (i q : Nat) x e, S i → xs[i]? = some x → x.ents[q]? = some e → S e.ino.toNat) : ∀ i, Reach xs r i → S i := fun i h => by
  induction h with
  | refl => exact h0
  | step _ hx he ih => exact hc _ _ _ _ ih hx he
theorem reach_lt {xs : List DInode} {r : Nat} (hI : inodesFault xs = 0) (hG : ∀ (j : Nat) x, xs[j]? = some x → goodX xs x) (hr : r < xs.length) : ∀ i, Reach xs r i → i < xs.length :=
  reach_sub hr fun i q x e _ hx he => by
    have h1 := ent_in (hG i x hx q e he)
    have h2 := ents_ok (inodes_all hI x (List.mem_of_getElem? hx)) q e he
    omega
structure Dfs (xs : List DInode) (r : Nat) (b : List Bool) (op : List Int) : Prop where
  len : b.length = xs.length
  snd : ∀ i, On b i → Reach xs r i
  opn : ∀ a, a ∈ op → (0 ≤ a ∧ a < (xs.length : Int)) ∧ Reach xs r a.toNat
  top : On b r ∨ (r : Int) ∈ op
  cls : ∀ (i q : Nat) x e, On b i → xs[i]? = some x → x.ents[q]? = some e → On b e.ino.toNat ∨ e.ino ∈ op
theorem dfs_init {xs : List DInode} {r : Nat} (hr : r < xs.length) : Dfs xs r (List.replicate xs.length false) [(r : Int)] where
  len := by simp
  snd i h := by
    exfalso
    unfold On at h
    rw [List.getElem?_replicate] at h
    split at h <;> simp at h
  opn a ha := by
    obtain rfl := List.mem_singleton.1 ha
    exact ⟨by omega, by rw [Int.toNat_natCast]; exact .refl⟩
  top := .inr (List.mem_singleton.2 rfl)
  cls i q x e h := by
    exfalso
    unfold On at h
    rw [List.getElem?_replicate] at h
    split at h <;> simp at h
theorem take_last {α : Type} {op : List α} {a : α} (ha : op[op.length - 1]? = some a) : op = op.take (op.length - 1) ++ [a] := by
  have := take_snoc ha
  rw [this, List.take_of_length_le]
  have := (List.getElem?_eq_some_iff.1 ha).1
  omega
theorem dfs_seen {xs : List DInode} {r : Nat} {b : List Bool} {op : List Int} {a : Int} (h : Dfs xs r b op) (ha : op[op.length - 1]? = some a) (hs : On b a.toNat) : Dfs xs r b (op.take (op.length - 1)) := by
  have he := take_last ha
  have hm : ∀ c, c ∈ op → c = a ∨ c ∈ op.take (op.length - 1) := fun c hc => by
    rw [he] at hc
    rcases List.mem_append.1 hc with h1 | h1
    · exact .inr h1
    · exact .inl (List.mem_singleton.1 h1)
  refine ⟨h.len, h.snd, fun c hc => h.opn c (List.mem_of_mem_take hc), ?_, fun i q x e hi hx hq => ?_⟩
  · rcases h.top with h1 | h1
    · exact .inl h1
    · rcases hm _ h1 with h2 | h2
      · exact .inl (by rw [← h2, Int.toNat_natCast] at hs; exact hs)
      · exact .inr h2
  · rcases h.cls i q x e hi hx hq with h1 | h1
    · exact .inl h1
    · rcases hm _ h1 with h2 | h2
      · exact .inl (by rw [h2]; exact hs)
      · exact .inr h2
def inosTo (es : List DEnt) (k : Nat) : List Int := (es.take k).map (·.ino)
theorem inosTo_s {op : List Int} {es : List DEnt} {k : Nat} {e : DEnt} (h : es[k]? = some e) : (op ++ inosTo es k) ++ [e.ino] = op ++ inosTo es (k + 1) := by
  unfold inosTo
  rw [← take_snoc h, List.map_append, List.append_assoc]
  rfl
theorem inosTo_0 (op : List Int) (es : List DEnt) : op = op ++ inosTo es 0 := by simp [inosTo]
theorem inosTo_len {es : List DEnt} {k : Nat} : (inosTo es k).length ≤ es.length := by
  unfold inosTo; rw [List.length_map, List.length_take]; omega
theorem dfs_new {xs : List DInode} {r : Nat} {b : List Bool} {op : List Int} {a : Int} {x : DInode} {k : Nat} (hI : inodesFault xs = 0) (hG : ∀ (j : Nat) x, xs[j]? = some x → goodX xs x) (h : Dfs xs r b op) (ha : op[op.length - 1]? = some a) (hx : xs[a.toNat]? = some x) (hk : x.ents.length ≤ k) :
    Dfs xs r (b.set a.toNat true) (op.take (op.length - 1) ++ inosTo x.ents k) := by
  have he := take_last ha
  have hmem : a ∈ op := by rw [he]; exact List.mem_append.2 (.inr (List.mem_singleton.2 rfl))
  have hop := h.opn a hmem
  have hlt : a.toNat < b.length := by rw [h.len]; omega
  have hm : ∀ c, c ∈ op → c = a ∨ c ∈ op.take (op.length - 1) := fun c hc => by
    rw [he] at hc
    rcases List.mem_append.1 hc with h1 | h1
    · exact .inr h1
    · exact .inl (List.mem_singleton.1 h1)
  have hin : inosTo x.ents k = x.ents.map (·.ino) := by unfold inosTo; rw [List.take_of_length_le hk]
  refine ⟨by rw [List.length_set]; exact h.len, fun i hi => ?_, fun c hc => ?_, ?_, fun i q y e hi hy hq => ?_⟩
  · rcases (on_set hlt).1 hi with rfl | h1
    · exact hop.2
    · exact h.snd i h1
  · rcases List.mem_append.1 hc with h1 | h1
    · exact h.opn c (List.mem_of_mem_take h1)
    · rw [hin] at h1
      obtain ⟨e, hem, rfl⟩ := List.mem_map.1 h1
      obtain ⟨q, hq⟩ := List.mem_iff_getElem?.1 hem
      have h2 := ent_in (hG _ x hx q e hq)
      have h3 := ents_ok (inodes_all hI x (List.mem_of_getElem? hx)) q e hq
      exact ⟨⟨h3.2.1, h2⟩, .step hop.2 hx hq⟩
  · rcases h.top with h1 | h1
    · exact .inl ((on_set hlt).2 (.inr h1))
    · rcases hm _ h1 with h2 | h2
      · exact .inl ((on_set hlt).2 (.inl (by rw [← h2, Int.toNat_natCast])))
      · exact .inr (List.mem_append.2 (.inl h2))
  · rcases (on_set hlt).1 hi with rfl | h1
    · rw [hx] at hy
      obtain rfl := Option.some.inj hy
      exact .inr (List.mem_append.2 (.inr (by rw [hin]; exact List.mem_map.2 ⟨e, List.mem_of_getElem? hq, rfl⟩)))
    · rcases h.cls i q y e h1 hy hq with h2 | h2
      · exact .inl ((on_set hlt).2 (.inr h2))
      · rcases hm _ h2 with h3 | h3
        · exact .inl ((on_set hlt).2 (.inl (by rw [h3])))
        · exact .inr (List.mem_append.2 (.inl h3))
theorem dfs_end {xs : List DInode} {r : Nat} {b : List Bool} {op : List Int} (h : Dfs xs r b op) (h0 : op.length = 0) : ∀ i, On b i ↔ Reach xs r i := by
  obtain rfl := List.length_eq_zero_iff.1 h0
  have hr : On b r := h.top.elim id (fun h => by cases h)
  exact fun i => ⟨h.snd i, reach_sub hr (fun i q x e hi hx hq => (h.cls i q x e hi hx hq).elim id (fun h => by cases h)) i⟩
def offN (b : List Bool) : Nat := b.count false
theorem offN_set : ∀ {b : List Bool} {j : Nat}, b[j]? = some false → offN (b.set j true) + 1 = offN b
  | [], j, h => by simp at h
  | c :: b, 0, h => by
    simp at h
    subst h
    simp [offN]
  | c :: b, j + 1, h => by
    have ih := offN_set (b := b) (j := j) (by simpa using h)
    unfold offN at ih ⊢
    simp only [List.set_cons_succ, List.count_cons]
    omega
theorem not_on {b : List Bool} {j : Nat} (hj : j < b.length) (h : ¬ On b j) : b[j]? = some false := by
  unfold On at h
  rw [List.getElem?_eq_getElem hj] at h ⊢
  cases hb : b[j]
  · rfl
  · exact absurd (by rw [hb]) h
abbrev onP (b : List Bool) : Int → Bool := fun a => b.getD a.toNat false
theorem onP_of {b : List Bool} {k : Nat} {c : Bool} (h : b[k]? = some c) : onP b (k : Int) = c := by
  unfold onP
  rw [Int.toNat_natCast, List.getD_eq_getElem?_getD, h]
  rfl
theorem seen_reach {xs : List DInode} {r : Nat} {b : List Bool} {k : Nat} (h : ∀ i, On b i ↔ Reach xs r i) (hl : b.length = xs.length) (hk : k = b.length) : placesTo (onP b) k = reachL xs r := by
  unfold reachL
  rw [hk, hl]
  refine placesTo_congr fun a h1 h2 => ?_
  rw [Bool.eq_iff_iff, reachP_iff, ← h]
  unfold onP On
  rw [List.getD_eq_getElem?_getD]
  cases hb : b[a.toNat]? with
  | none => simp
  | some c => simp
abbrev LeB (b c : List Bool) : Prop := ∀ i, On b i → On c i
def onN (b : List Bool) : Nat := b.count true
theorem onN_len (b : List Bool) : onN b ≤ b.length := List.count_le_length
theorem onN_lt : ∀ {b c : List Bool}, b.length = c.length → LeB b c → b = c ∨ onN b < onN c
  | [], [], _, _ => .inl rfl
  | x :: b, y :: c, hl, hle => by
    have h1 : LeB b c := fun i hi => by have := hle (i + 1) (by simpa [On] using hi); simpa [On] using this
    have h0 : x = true → y = true := fun hx => by have := hle 0 (by simp [On, hx]); simpa [On] using this
    rcases onN_lt (b := b) (c := c) (by simpa using hl) h1 with rfl | h2
    · cases x <;> cases y <;> simp [onN] at h0 ⊢
    · right
      unfold onN at h2 ⊢
      simp only [List.count_cons]
      cases x <;> cases y <;> simp at h0 ⊢ <;> omega
  | [], _ :: _, hl, _ => by simp at hl
  | _ :: _, [], hl, _ => by simp at hl
abbrev Clo (xs : List DInode) (b : List Bool) : Prop := ∀ (i q : Nat) x e, On b i → xs[i]? = some x → x.ents[q]? = some e → On b e.ino.toNat
structure Rnd (xs : List DInode) (k : Nat) (b : List Bool) : Prop where
  len : b.length = xs.length
  snd : ∀ i, On b i → Reach xs 0 i
  top : On b 0
  prog : Clo xs b ∨ k + 1 ≤ onN b
structure Mid (xs : List DInode) (b0 : List Bool) (i : Nat) (b : List Bool) : Prop where
  len : b.length = xs.length
  snd : ∀ i, On b i → Reach xs 0 i
  le : LeB b0 b
  don : ∀ (j q : Nat) x e, j < i → On b0 j → xs[j]? = some x → x.ents[q]? = some e → On b e.ino.toNat
theorem mid_init {xs : List DInode} {k : Nat} {b : List Bool} (h : Rnd xs k b) : Mid xs b 0 b := ⟨h.len, h.snd, fun _ h => h, fun j _ _ _ hj => absurd hj (Nat.not_lt_zero j)⟩
theorem rnd_next {xs : List DInode} {k i : Nat} {b0 b : List Bool} (h0 : Rnd xs k b0) (h : Mid xs b0 i b) (hi : xs.length ≤ i) : Rnd xs (k + 1) b := by
  refine ⟨h.len, h.snd, h.le 0 h0.top, ?_⟩
  have hd : ∀ (j q : Nat) x e, On b0 j → xs[j]? = some x → x.ents[q]? = some e → On b e.ino.toNat := fun j q x e hj hx hq => h.don j q x e (by have := (List.getElem?_eq_some_iff.1 hx).1; omega) hj hx hq
  rcases onN_lt (h0.len.trans h.len.symm) h.le with rfl | hlt
  · exact .inl hd
  · rcases h0.prog with hc | hc
    · exfalso
      have : b0 = b := by
        have hle : LeB b b0 := fun j hj => reach_sub h0.top hc j (h.snd j hj)
        rcases onN_lt (h.len.trans h0.len.symm) hle with h1 | h1
        · exact h1.symm
        · omega
      subst this
      omega
    · exact .inr (by omega)
theorem rnd_end {xs : List DInode} {k : Nat} {b : List Bool} (h : Rnd xs k b) (hk : xs.length ≤ k) : ∀ i, On b i ↔ Reach xs 0 i := by
  have hc : Clo xs b := h.prog.elim id (fun h1 => by have := onN_len b; have := h.len; omega)
  exact fun i => ⟨h.snd i, reach_sub h.top hc i⟩
structure Inn (xs : List DInode) (b0 : List Bool) (i : Nat) (x : DInode) (q : Nat) (b : List Bool) : Prop where
  mid : Mid xs b0 i b
  don : ∀ (j : Nat) e, j < q → x.ents[j]? = some e → On b e.ino.toNat
theorem inn_init {xs : List DInode} {b0 b : List Bool} {i : Nat} {x : DInode} (h : Mid xs b0 i b) : Inn xs b0 i x 0 b := ⟨h, fun j _ hj => absurd hj (Nat.not_lt_zero j)⟩
theorem inn_next {xs : List DInode} {b0 b : List Bool} {i q : Nat} {x : DInode} {e : DEnt} (h : Inn xs b0 i x q b) (hx : xs[i]? = some x) (he : x.ents[q]? = some e) (hb : On b i) (hl : e.ino.toNat < b.length) : Inn xs b0 i x (q + 1) (b.set e.ino.toNat true) := by
  have up : ∀ j, On b j → On (b.set e.ino.toNat true) j := fun j hj => (on_set hl).2 (.inr hj)
  refine ⟨⟨by rw [List.length_set]; exact h.mid.len, fun j hj => ?_, fun j hj => up j (h.mid.le j hj), fun j p y d hj hb0 hy hd => up _ (h.mid.don j p y d hj hb0 hy hd)⟩, fun j d hj hd => ?_⟩
  · rcases (on_set hl).1 hj with rfl | h1
    · exact .step (h.mid.snd i hb) hx he
    · exact h.mid.snd j h1
  · by_cases hq : j < q
    · exact up _ (h.don j d hq hd)
    · obtain rfl : j = q := by omega
      rw [he] at hd
      obtain rfl := Option.some.inj hd
      exact (on_set hl).2 (.inl rfl)
theorem mid_next {xs : List DInode} {b0 b : List Bool} {i q : Nat} {x : DInode} (h : Inn xs b0 i x q b) (hx : xs[i]? = some x) (hq : On b i → x.ents.length ≤ q) : Mid xs b0 (i + 1) b := by
  refine ⟨h.mid.len, h.mid.snd, h.mid.le, fun j p y d hj hb0 hy hd => ?_⟩
  by_cases hji : j < i
  · exact h.mid.don j p y d hji hb0 hy hd
  · obtain rfl : j = i := by omega
    rw [hx] at hy
    obtain rfl := Option.some.inj hy
    have := hq (h.mid.le _ hb0)
    exact h.don p d (by have := (List.getElem?_eq_some_iff.1 hd).1; omega) hd
theorem rnd_init {xs : List DInode} (h0 : 0 < xs.length) : Rnd xs 0 ((List.replicate xs.length false).set 0 true) := by
  have hl : 0 < (List.replicate xs.length false).length := by simpa using h0
  refine ⟨by simp, fun i hi => ?_, (on_set hl).2 (.inl rfl), .inr ?_⟩
  · rcases (on_set hl).1 hi with rfl | h1
    · exact .refl
    · exfalso
      unfold On at h1
      rw [List.getElem?_replicate] at h1
      split at h1 <;> simp at h1
  · cases hn : xs.length with
    | zero => omega
    | succ n => simp [List.replicate_succ, onN]
noncomputable def reachR (f : DFs) : RInts := if treeFault f = 0 then ⟨0, reachL f.inodes 0⟩ else ⟨treeFault f, []⟩
theorem reachR_f {f : DFs} (h : ¬ treeFault f = 0) : reachR f = ⟨treeFault f, []⟩ := if_neg h
theorem reachR_0 {f : DFs} (h : treeFault f = 0) : reachR f = ⟨0, reachL f.inodes 0⟩ := if_pos h
theorem treeG {f : DFs} (h : treeFault f = 0) : ∀ (j : Nat) x, f.inodes[j]? = some x → goodX f.inodes x := fun _ _ hx => good_of (treeOk h).2.2.2 hx
theorem treeL {f : DFs} (h : treeFault f = 0) : 0 < f.inodes.length := (rootOk (treeOk h).1).2.1
end Go.Proofs.YtmejbfmhaoilmaaGreat
/- What is proved: a whole file system's fault, the bytes of a file, in plain Lean. No condition. -/
namespace Go.Proofs.YtmejbfmhaoilmaaGreat
open Go Go.RowKit
set_option linter.unusedVariables false
set_option linter.unusedSimpArgs false
def minI (a b : Int) : Int := if a < b then a else b
theorem minI_spec (a b : Int) : minI a b ≤ a ∧ minI a b ≤ b ∧ (minI a b = a ∨ minI a b = b) := by unfold minI; split <;> omega
theorem minI_a {a b : Int} (h : a < b) : minI a b = a := if_pos h
theorem minI_b {a b : Int} (h : ¬ a < b) : minI a b = b := if_neg h
theorem minI_sw (a b : Int) : (if b < a then b else a) = minI a b := by unfold minI; split <;> split <;> omega
def wantI (x : DInode) (L : List Int) : Nat → List Int
  | 0 => L
  | q + 1 => match x.blocks[q]? with | some b => (wantI x L q).set b.toNat (minI 8 (x.size - ((q * 8 : Nat) : Int))) | none => wantI x L q
def wantTo (xs : List DInode) : Nat → List Int
  | 0 => List.replicate 20 0
  | k + 1 => match xs[k]? with | some x => wantI x (wantTo xs k) x.blocks.length | none => wantTo xs k
theorem wantI_s {x : DInode} {L : List Int} {q : Nat} {b : Int} (h : x.blocks[q]? = some b) : (wantI x L q).set b.toNat (minI 8 (x.size - ((q * 8 : Nat) : Int))) = wantI x L (q + 1) := by simp only [wantI, h]
theorem wantTo_s {xs : List DInode} {k q : Nat} {x : DInode} (h : xs[k]? = some x) (hq : x.blocks.length ≤ q) (hq2 : q ≤ x.blocks.length) : wantI x (wantTo xs k) q = wantTo xs (k + 1) := by
  have : q = x.blocks.length := by omega
  subst this
  simp only [wantTo, h]
theorem wantI_len {x : DInode} {L : List Int} : ∀ q, (wantI x L q).length = L.length
  | 0 => rfl
  | q + 1 => by
    simp only [wantI]
    split
    · rw [List.length_set]; exact wantI_len q
    · exact wantI_len q
theorem wantTo_len {xs : List DInode} : ∀ k, (wantTo xs k).length = 20
  | 0 => by simp [wantTo]
  | k + 1 => by
    simp only [wantTo]
    split
    · rw [wantI_len]; exact wantTo_len k
    · exact wantTo_len k
theorem size_32 {x : DInode} (h : inodeFault x = 0) : 0 ≤ x.size ∧ x.size ≤ 32 := by
  unfold inodeFault at h
  split at h
  · split at h
    · exact absurd h (by decide)
    · split at h
      · unfold fileFault at h
        split at h
        · rename_i h1; exact h1.2
        · exact absurd h (by decide)
      · omega
  · exact absurd h (by decide)
theorem kind_02 {x : DInode} (h : inodeFault x = 0) : 0 ≤ x.kind ∧ x.kind ≤ 2 := by
  unfold inodeFault at h
  split at h
  · assumption
  · exact absurd h (by decide)
abbrev lens (f : DFs) : List Int := wantTo f.inodes f.inodes.length
def DataOk (f : DFs) : Prop := ∀ (j : Nat) (b : List UInt8), f.data[j]? = some b → (lens f)[j]? = some (b.length : Int)
noncomputable instance (f : DFs) : Decidable (DataOk f) := Classical.propDecidable _
theorem data_no {f : DFs} {k : Nat} {b : List UInt8} {n : Int} (hb : f.data[k]? = some b) (hn : (lens f)[k]? = some n) (h : ¬ (b.length : Int) = n) : ¬ DataOk f := fun hd => by
  have := hd k b hb
  rw [hn] at this
  exact h (Option.some.inj this).symm
theorem data_yes {f : DFs} {k : Nat} (hk : f.data.length ≤ k) (ha : ∀ (j : Nat) (b : List UInt8), j < k → f.data[j]? = some b → (lens f)[j]? = some (b.length : Int)) : DataOk f := fun j b hb => ha j b (by have := (List.getElem?_eq_some_iff.1 hb).1; omega) hb
theorem data_s {f : DFs} {k : Nat} {b : List UInt8} {n : Int} (ha : ∀ (j : Nat) (b : List UInt8), j < k → f.data[j]? = some b → (lens f)[j]? = some (b.length : Int)) (hb : f.data[k]? = some b) (hn : (lens f)[k]? = some n) (h : (b.length : Int) = n) : ∀ (j : Nat) (b : List UInt8), j < k + 1 → f.data[j]? = some b → (lens f)[j]? = some (b.length : Int) :=
  all_succ (q := fun j (b : List UInt8) => (lens f)[j]? = some (b.length : Int)) ha hb (by rw [hn, h])
structure LinkOk (f : DFs) (j : Nat) (x : DInode) : Prop where
  file : x.kind = 1 → x.links = (linksOf f.inodes (j : Int) : Int)
  root : x.kind = 2 → j = 0 → (linksOf f.inodes (j : Int) : Int) = 0
  dir : x.kind = 2 → 0 < j → (linksOf f.inodes (j : Int) : Int) = 1
  way : ¬ x.kind = 0 → (j : Int) ∈ reachL f.inodes 0
def LinksOk (f : DFs) : Prop := ∀ (j : Nat) (x : DInode), f.inodes[j]? = some x → LinkOk f j x
noncomputable instance (f : DFs) : Decidable (LinksOk f) := Classical.propDecidable _
theorem links_yes {f : DFs} {k : Nat} (hk : f.inodes.length ≤ k) (ha : ∀ j x, j < k → f.inodes[j]? = some x → LinkOk f j x) : LinksOk f := fun j x hx => ha j x (by have := (List.getElem?_eq_some_iff.1 hx).1; omega) hx
noncomputable def linksF (f : DFs) : Int := if LinksOk f then 0 else 1
noncomputable def dataF (f : DFs) : Int := if DataOk f then 0 else 1
theorem linksF_1 {f : DFs} (h : ¬ LinksOk f) : linksF f = 1 := if_neg h
theorem linksF_0 {f : DFs} (h : LinksOk f) : linksF f = 0 := if_pos h
theorem dataF_1 {f : DFs} (h : ¬ DataOk f) : dataF f = 1 := if_neg h
theorem dataF_0 {f : DFs} (h : DataOk f) : dataF f = 0 := if_pos h
noncomputable def fsFault (f : DFs) : Int := if treeFault f = 0 then if LinksOk f ∧ DataOk f then 0 else 1 else treeFault f
theorem fsFault_t {f : DFs} (h : ¬ treeFault f = 0) : fsFault f = treeFault f := if_neg h
theorem fsFault_1 {f : DFs} (h : treeFault f = 0) (h2 : ¬ LinksOk f ∨ ¬ DataOk f) : fsFault f = 1 := by unfold fsFault; rw [if_pos h, if_neg (fun hh => h2.elim (fun k => k hh.1) (fun k => k hh.2))]
theorem fsFault_0 {f : DFs} (h : treeFault f = 0) (h2 : LinksOk f) (h3 : DataOk f) : fsFault f = 0 := by unfold fsFault; rw [if_pos h, if_pos ⟨h2, h3⟩]
theorem fsFault_l {f : DFs} (h : treeFault f = 0) (h2 : ¬ linksF f = 0) : fsFault f = linksF f := by
  by_cases hl : LinksOk f
  · exact absurd (linksF_0 hl) h2
  · rw [fsFault_1 h (.inl hl), linksF_1 hl]
theorem fsFault_d {f : DFs} (h : treeFault f = 0) (h2 : linksF f = 0) : fsFault f = dataF f := by
  by_cases hl : LinksOk f
  · by_cases hd : DataOk f
    · rw [fsFault_0 h hl hd, dataF_0 hd]
    · rw [fsFault_1 h (.inr hd), dataF_1 hd]
  · rw [linksF_1 hl] at h2; exact absurd h2 (by decide)
theorem fsTree {f : DFs} (h : fsFault f = 0) : treeFault f = 0 := by
  unfold fsFault at h
  split at h
  · assumption
  · contradiction
theorem fsOk {f : DFs} (h : fsFault f = 0) : treeFault f = 0 ∧ LinksOk f ∧ DataOk f := by
  refine ⟨fsTree h, ?_⟩
  apply Classical.byContradiction
  intro hn
  by_cases hl : LinksOk f
  · have := fsFault_1 (fsTree h) (.inr fun hd => hn ⟨hl, hd⟩); omega
  · have := fsFault_1 (fsTree h) (.inl hl); omega
noncomputable def bytesCode (f : DFs) (a : Int) : Int := if fsFault f = 0 then if placeIn f.inodes.length a then if kindAt f.inodes a = 2 then 9 else if kindAt f.inodes a = 0 then 4 else 0 else 3 else fsFault f
theorem bytesCode_f {f : DFs} {a : Int} (h : ¬ fsFault f = 0) : bytesCode f a = fsFault f := if_neg h
theorem bytesCode_3 {f : DFs} {a : Int} (h : fsFault f = 0) (h2 : ¬ placeIn f.inodes.length a) : bytesCode f a = 3 := by unfold bytesCode; rw [if_pos h, if_neg h2]
theorem bytesCode_9 {f : DFs} {a : Int} (h : fsFault f = 0) (h2 : placeIn f.inodes.length a) (h3 : kindAt f.inodes a = 2) : bytesCode f a = 9 := by unfold bytesCode; rw [if_pos h, if_pos h2, if_pos h3]
theorem bytesCode_4 {f : DFs} {a : Int} (h : fsFault f = 0) (h2 : placeIn f.inodes.length a) (h3 : ¬ kindAt f.inodes a = 2) (h4 : kindAt f.inodes a = 0) : bytesCode f a = 4 := by unfold bytesCode; rw [if_pos h, if_pos h2, if_neg h3, if_pos h4]
theorem bytesCode_0 {f : DFs} {a : Int} (h : fsFault f = 0) (h2 : placeIn f.inodes.length a) (h3 : ¬ kindAt f.inodes a = 2) (h4 : ¬ kindAt f.inodes a = 0) : bytesCode f a = 0 := by unfold bytesCode; rw [if_pos h, if_pos h2, if_neg h3, if_neg h4]
theorem bytesOk {f : DFs} {a : Int} (h : bytesCode f a = 0) : fsFault f = 0 ∧ placeIn f.inodes.length a ∧ ¬ kindAt f.inodes a = 2 ∧ ¬ kindAt f.inodes a = 0 := by
  unfold bytesCode at h
  split at h
  · split at h
    · split at h
      · exact absurd h (by decide)
      · split at h
        · exact absurd h (by decide)
        · rename_i h1 h2 h3 h4; exact ⟨h1, h2, h3, h4⟩
    · exact absurd h (by decide)
  · contradiction
def blockD (data : List (List UInt8)) (b : Int) : List UInt8 := data.getD b.toNat []
def bytesTo (data : List (List UInt8)) (bs : List Int) (k : Nat) : List UInt8 := ((bs.take k).map (blockD data)).flatten
def blocksAt (xs : List DInode) (a : Int) : List Int := match xs[a.toNat]? with | some x => x.blocks | none => []
theorem blocks_at {xs : List DInode} {a : Int} {j : Nat} {x : DInode} (hx : xs[j]? = some x) (h : a = (j : Int)) : blocksAt xs a = x.blocks := by
  subst h
  unfold blocksAt
  rw [Int.toNat_natCast, hx]
def fileB (f : DFs) (a : Int) : List UInt8 := bytesTo f.data (blocksAt f.inodes a) (blocksAt f.inodes a).length
theorem bytesTo_s {data : List (List UInt8)} {bs : List Int} {k : Nat} {b : Int} {d : List UInt8} (hb : bs[k]? = some b) (hd : data[b.toNat]? = some d) : bytesTo data bs k ++ d = bytesTo data bs (k + 1) := by
  unfold bytesTo
  rw [← take_snoc hb, List.map_append, List.flatten_append]
  simp [blockD, hd]
theorem bytesTo_all {data : List (List UInt8)} {bs : List Int} {k : Nat} (h : bs.length ≤ k) : bytesTo data bs k = bytesTo data bs bs.length := by
  unfold bytesTo; rw [List.take_of_length_le h, List.take_length]
theorem bytesTo_len {data : List (List UInt8)} {bs : List Int} (k : Nat) (h4 : bs.length ≤ 4) (h8 : ∀ d, d ∈ data → d.length ≤ 8) : (bytesTo data bs k).length ≤ 32 := by
  unfold bytesTo
  have h1 : (bs.take k).length ≤ 4 := by rw [List.length_take]; omega
  have h2 : ∀ l : List Int, ((l.map (blockD data)).flatten).length ≤ l.length * 8 := by
    intro l
    induction l with
    | nil => simp
    | cons b l ih =>
      have : (blockD data b).length ≤ 8 := by
        unfold blockD
        rw [List.getD_eq_getElem?_getD]
        cases hd : data[b.toNat]? with
        | none => simp
        | some d => simpa using h8 d (List.mem_of_getElem? hd)
      simp only [List.map_cons, List.flatten_cons, List.length_append, List.length_cons]
      omega
  have := h2 (bs.take k)
  omega
theorem data_8 {f : DFs} (h : treeFault f = 0) : ∀ d, d ∈ f.data → d.length ≤ 8 := fun d hd => by
  have h1 := (treeOk h).2.1
  unfold bigD at h1
  rw [List.any_eq_false] at h1
  have := h1 d hd
  simp only [decide_eq_true_eq] at this
  omega
theorem data_20 {f : DFs} (h : treeFault f = 0) : f.data.length = 20 := (rootOk (treeOk h).1).2.2.2
noncomputable def bytesR (f : DFs) (a : Int) : RBytes := if bytesCode f a = 0 then ⟨0, fileB f a⟩ else ⟨bytesCode f a, []⟩
theorem bytesR_f {f : DFs} {a : Int} (h : ¬ bytesCode f a = 0) : bytesR f a = ⟨bytesCode f a, []⟩ := if_neg h
theorem bytesR_0 {f : DFs} {a : Int} (h : bytesCode f a = 0) : bytesR f a = ⟨0, fileB f a⟩ := if_pos h
end Go.Proofs.YtmejbfmhaoilmaaGreat
/- What is proved: arrays of whole numbers in memory and as values; the lesser of two numbers. No condition. -/
namespace Go.Proofs.YtmejbfmhaoilmaaGreat
open Go Go.RowKit
set_option linter.unusedVariables false
set_option linter.unusedSimpArgs false
section
variable {P : Program} {T : Slots} {Wd : World → Prop} {o : Oper} {x y : Operand} {t e : TypeId}
theorem q_indexAddrA {sz n j : Nat} {ad : Addr} {k : IntKind} {i : Int} (ho : o.op = .indexAddr t x y) (ht : P.underlying t = some (.array n e)) (he : (P.info? e).map (·.size) = some sz) (hx : Val T x (.pointer (some ad))) (hy : Val T y (.int k i)) (hi : i = j) (hj : j < n) :
    Quiet P o T Wd (.pointer (some (ad.add (j * sz)))) := fun a w ha _ => by
  subst hi
  obtain ⟨i0, h1, h2⟩ := Option.map_eq_some_iff.1 he
  simp only [execOp, ho, hx a ha, hy a ha]
  simp [Instr.indexAt, asIntOf, run_underlying ht, Instr.sureAddr, sizeOf, typeInfo, h1, h2, hj]
theorem q_indexArr {n j : Nat} {L : List Int} {k : IntKind} {i z : Int} (ho : o.op = .index t x y) (ht : P.underlying t = some (.array n e)) (he : (P.info? e).map (·.size) = some 1) (hg : AggIs P e false) (hx : Val T x (.agg (L.map (Value.int .i64)).toArray)) (hy : Val T y (.int k i)) (hi : i = j) (hj : L[j]? = some z) (hl : L.length = n) :
    Quiet P o T Wd (.int .i64 z) := fun a w ha _ => by
  subst hi
  obtain ⟨i0, h1, h2⟩ := Option.map_eq_some_iff.1 he
  obtain ⟨d, hd, hd2⟩ := hg.ex
  have hag := run_isAgg hd w
  rw [hd2] at hag
  have hlt : j < n := by rw [← hl]; exact (List.getElem?_eq_some_iff.1 hj).1
  have hp : (part e (L.map (Value.int .i64)).toArray (j * 1)).run P w = .ok (.int .i64 z) w := by
    unfold part
    rw [Sem.run_bind, hag]
    simp [hj]
  simp only [execOp, ho, hx a ha, hy a ha]
  simp [Instr.index, asIntOf, run_underlying ht, sizeOf, typeInfo, h1, h2, hlt]
  rw [Nat.mul_one] at hp
  simp [hp]
theorem q_min {ts : Array TypeId} {a b : Int} {k : IntKind} (ho : o.op = .call { callee := .builtin .min, args := #[x, y], argTypes := ts }) (hx : Val T x (.int k a)) (hy : Val T y (.int k b)) : Quiet P o T Wd (.int k (minI a b)) := fun ac w ha _ => by
  simp only [execOp, ho]
  simp [resolve, hx ac ha, hy ac ha, invoke, builtin, Builtin.min_, Builtin.min2, minI_sw]
end
theorem set1_at {v : Value} : ∀ {l : List Value} {n : Nat}, n < l.length → Set1 l n v (l.set n v)
  | _ :: _, 0, _ => .z
  | _ :: _, n + 1, h => .s (set1_at (by simpa using h))
  | [], _, h => by simp at h
theorem put_at {v : Value} {l : List Value} {n : Nat} (h : n < l.length) : PutN l n [v] (l.set n v) := .c (set1_at h) .n
theorem put_all : ∀ {pre cs fl : List Value}, fl.length = cs.length → PutN (pre ++ fl) pre.length cs (pre ++ cs)
  | pre, [], [], _ => by simpa using PutN.n
  | pre, c :: cs, f :: fl, h => by
    have h1 : Set1 (pre ++ f :: fl) pre.length c ((pre ++ [c]) ++ fl) := by
      have := set1_at (v := c) (l := pre ++ f :: fl) (n := pre.length) (by simp)
      simpa [List.set_append] using this
    have h2 := put_all (pre := pre ++ [c]) (cs := cs) (fl := fl) (by simpa using h)
    refine .c h1 ?_
    simpa using h2
  | _, [], _ :: _, h => by simp at h
  | _, _ :: _, [], h => by simp at h
theorem put_whole {cs fl : List Value} (h : fl.length = cs.length) : PutN fl 0 cs cs := by simpa using put_all (pre := []) h
theorem map_set (L : List Int) (j : Nat) (z : Int) : (L.map (Value.int .i64)).set j (.int .i64 z) = (L.set j z).map (Value.int .i64) := by rw [List.map_set]
theorem put_arr {L : List Int} {j : Nat} {z : Int} (h : j < L.length) : PutN (L.map (Value.int .i64)) (j * 1) [.int .i64 z] ((L.set j z).map (Value.int .i64)) := by
  rw [Nat.mul_one, ← map_set]
  exact put_at (by rwa [List.length_map])
theorem ones_map (L : List Int) : ∀ u, u ∈ L.map (Value.int .i64) → u.oneCell' = true := fun u hu => by
  obtain ⟨z, _, rfl⟩ := List.mem_map.1 hu
  rfl
end Go.Proofs.YtmejbfmhaoilmaaGreat

/- What is proved: results of which one lies in memory. No condition. -/
import Derived.Test.YtkmcpcahbfdohaaBase1
namespace Go.Proofs.Ytkmcpcahbfdohaa
open Go Go.RowKit
set_option linter.unusedVariables false
set_option linter.unusedSimpArgs false
section
variable {w0 : World} {S0 : Bs} {T : Slots} {l : List Asn} {P : Program}
theorem res_ct {fn : Func} {s ty u : Nat} {ad : Addr} {cs : List Value} {v : Value} (hr : fn.results = #[.cell s ty, .tmp u]) (h : Get T (s, .pointer (some ad))) (hg : AggIs P ty true) (hi : (P.info? ty).map (·.size) = some cs.length)
    (hc : ∀ w, WS w0 S0 l w → ∀ (i : Nat) (u : Value), cs[i]? = some u → w.cell? (ad.add i) = some u) (k : Get T (u, v)) : ∀ (a : Act) (w : World), Holds T a → WS w0 S0 l w → (results fn a.tmps).run P w = .ok (.tuple #[.agg cs.toArray, v]) w := fun a w ha hw => by
  obtain ⟨d, ht, hd⟩ := hg.ex
  have hag := run_isAgg ht w
  rw [hd] at hag
  obtain ⟨i0, h1, h2⟩ := Option.map_eq_some_iff.1 hi
  have hl := run_loadCells_list (P := P) w ad cs (hc w hw)
  have e1 := slot_of h ha
  have e2 := slot_of k ha
  simp only [Array.getD_eq_getD_getElem?] at e1 e2
  simp [results, hr, e1, e2, asAddr, loadVar, Sem.run_bind, hag, sizeOf, typeInfo, h1, h2, hl]
end
end Go.Proofs.Ytkmcpcahbfdohaa
/- What is proved: one element of a slice of one's own, taken out and put back; a part of a slice of one's own, read; a row's cells as a slice of structs. No condition. -/
namespace Go.Proofs.Ytkmcpcahbfdohaa
open Go Go.RowKit
set_option linter.unusedVariables false
set_option linter.unusedSimpArgs false
theorem seqA_at {α : Type} {K : Kd α} : ∀ {xs : List α} {css : List (List Value)} {j : Nat} {x : α} {c : List Value}, xs[j]? = some x → css[j]? = some c → seqA K xs css = seqA K (xs.take j) (css.take j) ++ ownA K x c :: seqA K (xs.drop (j + 1)) (css.drop (j + 1))
  | [], _, _, _, _, hx, _ => by simp at hx
  | _, [], _, _, _, _, hc => by simp at hc
  | y :: xs, d :: css, 0, x, c, hx, hc => by
    simp at hx hc
    subst hx; subst hc
    rfl
  | y :: xs, d :: css, j + 1, x, c, hx, hc => by
    have ih := seqA_at (K := K) (xs := xs) (css := css) (j := j) (x := x) (c := c) (by simpa using hx) (by simpa using hc)
    rw [seqA_cons, ih]
    rfl
theorem seq_split {α : Type} {K : Kd α} {xs : List α} {css : List (List Value)} {j : Nat} {x : α} {c : List Value} (hx : xs[j]? = some x) (hc : css[j]? = some c) (w : World) (S : Bs) (h : (seqC K xs css).p w S) : Star [ownA K x c, seqC K (xs.take j) (css.take j), seqC K (xs.drop (j + 1)) (css.drop (j + 1))] w S := by
  have h1 : Star (seqA K xs css) w S := h
  rw [seqA_at hx hc] at h1
  obtain ⟨A, B, hA, ⟨B1, B2, h2, h3, i1, i2, d1⟩, i, k, d⟩ := h1.split
  exact ⟨B1, fun b => A b ∨ B2 b, h2, ⟨A, B2, hA, Star.one (c := seqC K _ _) h3, fun _ h => .inl h, fun _ h => .inr h, fun b ha hb => d b ha (i2 b hb)⟩, fun b hb => k b (i1 b hb), fun b hb => hb.elim (i b) (fun h => k b (i2 b h)), fun b hb hb2 => hb2.elim (fun h => d b h (i1 b hb)) (d1 b hb)⟩
theorem seq_join {α : Type} {K : Kd α} {xs : List α} {css : List (List Value)} {j : Nat} {x : α} {c : List Value} (hx : xs[j]? = some x) (hc : css[j]? = some c) (w : World) (S : Bs) (h : Star [ownA K x c, seqC K (xs.take j) (css.take j), seqC K (xs.drop (j + 1)) (css.drop (j + 1))] w S) : (seqC K xs css).p w S := by
  obtain ⟨B1, C, h2, ⟨A, B2, hA, h3, i1, i2, d1⟩, i, k, d⟩ := h
  show Star (seqA K xs css) w S
  rw [seqA_at hx hc]
  have h3' : Star (seqA K (xs.drop (j + 1)) (css.drop (j + 1))) w B2 := Star.head (c := seqC K _ _) h3
  exact Star.app hA ⟨B1, B2, h2, h3', fun _ h => .inl h, fun _ h => .inr h, fun b hb hb2 => d b hb (i2 b hb2)⟩ (S2 := fun b => B1 b ∨ B2 b) (fun b hb => k b (i1 b hb)) (fun b hb => hb.elim (i b) (fun h => k b (i2 b h))) (fun b ha hb => hb.elim (fun h => d b h (i1 b ha)) (d1 b ha))
theorem css_same {css : List (List Value)} {j : Nat} {c : List Value} (h : css[j]? = some c) : css = css.set j c := by
  obtain ⟨hj, rfl⟩ := List.getElem?_eq_some_iff.1 h
  exact (List.set_getElem_self hj).symm
theorem own_unfocus {α : Type} {K : Kd α} {e by_ : Nat} {xs : List α} {css css' : List (List Value)} {j : Nat} {x : α} {c : List Value} {v : Value} (hl : css.length = xs.length) (hj : j < xs.length) (he : css' = css.set j c) (w : World) (S : Bs)
    (h : Star [ownA (kslice e by_ (kraw K.sz K.pos)) css' [v], ownA K x c, seqC K (xs.take j) (css.take j), seqC K (xs.drop (j + 1)) (css.drop (j + 1))] w S) : (ownA (kslice e by_ K) (xs.set j x) [v]).p w S := by
  subst he
  obtain ⟨A, B, hA, hB, i, k, d⟩ := h
  refine raw_own (xs := xs.set j x) (css := css.set j c) (by rw [List.length_set, List.length_set]; exact hl) w S ⟨A, B, hA, Star.one (c := seqC K _ _) (seq_join (j := j) (x := x) (c := c) (by rw [List.getElem?_set_self hj]) (by rw [List.getElem?_set_self (by omega)]) w B ?_), i, k, d⟩
  rw [List.take_set_of_le (Nat.le_refl j), List.take_set_of_le (Nat.le_refl j), List.drop_set_of_lt (Nat.lt_succ_self j), List.drop_set_of_lt (Nat.lt_succ_self j)]
  exact hB
theorem own_unfocus0 {α : Type} {K : Kd α} {e by_ : Nat} {xs : List α} {css : List (List Value)} {j : Nat} {x : α} {c : List Value} {v : Value} (hl : css.length = xs.length) (hx : xs[j]? = some x) (hc : css[j]? = some c) (w : World) (S : Bs)
    (h : Star [ownA (kslice e by_ (kraw K.sz K.pos)) css [v], ownA K x c, seqC K (xs.take j) (css.take j), seqC K (xs.drop (j + 1)) (css.drop (j + 1))] w S) : (ownA (kslice e by_ K) xs [v]).p w S := by
  obtain ⟨A, B, hA, hB, i, k, d⟩ := h
  exact raw_own hl w S ⟨A, B, hA, Star.one (c := seqC K _ _) (seq_join hx hc w B hB), i, k, d⟩
/-- A row of one element's cells, and what it owns. -/
theorem lit1_own {α : Type} {K : Kd α} {e by_ g sz : Nat} {x : α} {cs : List Value} (hsz : K.sz = sz) (hl : cs.length = sz) (hb : by_ ≤ 140737488355328) (w : World) (S : Bs) (h : Star [rowA g e sz 1 cs, ownA K x cs] w S) : (ownA (kslice e by_ K) [x] [.slice (some ⟨g, 0, none⟩) 1 1]).p w S := by
  subst hsz
  obtain ⟨A, B, hA, hB, i, k, d⟩ := h
  exact .inr ⟨g, 1, [cs], rfl, Nat.le_refl _, by omega, by simpa using hb, rfl, A, B, by simpa using hA, ⟨B, fun _ => False, Star.head (c := ownA K x cs) hB, trivial, fun _ h => h, fun _ h => h.elim, fun _ _ h => h⟩, i, k, d⟩
theorem Tr.ptrpre {w0 : World} {S0 : Bs} {l' : List Asn} {α : Type} {K : Kd α} {w : World} {S1 : Bs} {lr : List Asn} {g e sz c : Nat} {ecs cs : List Value} {x : α} (tr : Tr w0 S0 w S1 lr) (tk : Take lr (rowA g e sz c ecs) l') (hr : K.ro w (FF w S1) x cs) (hs : ∀ (i : Nat) (u : Value), cs[i]? = some u → ecs[i]? = some u) : PtrRo K w (FF w S1) ⟨g, 0, none⟩ x := by
  obtain ⟨S2, hst, hsub⟩ := tr.all
  have h := (hst.take tk).head
  refine ⟨cs, hsub _ h.1, hr, fun i u hu => ?_⟩
  rw [add_plain']
  exact row_cell h (hs i u hu)
theorem Tr.elw {w0 : World} {S0 : Bs} {α : Type} {K : Kd α} {w : World} {S1 : Bs} {lr : List Asn} {B : Addr} {ecs : List Value} {x : α} (tr : Tr w0 S0 w S1 lr) (hF : FF w0 S0 B.block) (hc : ∀ (i : Nat) (u : Value), ecs[i]? = some u → w0.cell? (B.add i) = some u) (hr : K.ro w (FF w S1) x ecs) : PtrRo K w (FF w S1) B x :=
  ⟨ecs, (tr.wide _ hF).1, hr, fun i u hu => (cell_loc (by rw [add_block]; exact (tr.wide _ hF).2)).trans (hc i u hu)⟩
section
variable {P : Program} {T : Slots} {Wd : World → Prop} {o : Oper}
theorem q_field {x : Operand} {s f : Nat} {v u : Value} (ho : o.op = .field s x f) (hx : Val T x v) (hs : ∀ w, (Instr.field s v f).run P w = .ok u w) : Quiet P o T Wd u := fun a w ha _ => by
  simp only [execOp, ho, hx a ha]; simp [hs w]
end
end Go.Proofs.Ytkmcpcahbfdohaa
/- What is proved: what a function owns, from some point on only read: a new base of its frame. No condition. -/
namespace Go.Proofs.Ytkmcpcahbfdohaa
open Go Go.RowKit
set_option linter.unusedVariables false
section
variable {N : Nat} {w0 : World} {S0 : Bs} {F : Act → World → Prop} {T : Slots} {l : List Asn} {P : Program}
theorem FJ.freeze {α : Type} {K : Kd α} {x : α} {cs : List Value} {l' : List Asn} (h : Take l (ownA K x cs) l')
    (k : ∀ (w1 : World) (S1 : Bs), (∀ {β : Type} {J : Kd β} {y : β} {ds : List Value}, J.ro w0 (FF w0 S0) y ds → J.ro w1 (FF w1 S1) y ds) → K.ro w1 (FF w1 S1) x cs → (∀ l w, WS w1 S1 l w → WS w0 S0 l w) → FJ N w1 S1 F T l') : FJ N w0 S0 F T l := by
  intro a w h1 h2 h3 h4
  obtain ⟨S, hs, hb, hf⟩ := h4.take h
  obtain ⟨A, B, hc, hl, iA, iB, d⟩ := hs
  have hc' := K.own_lt (show K.own w A x cs from hc)
  have hsub : ∀ b, FF w0 S0 b → FF w B b ∧ w.heap[b]? = w0.heap[b]? := fun b hF =>
    ⟨⟨Nat.lt_of_lt_of_le hF.1 hf.size, fun hB => (hb b (iB b hB)).elim hF.2 (fun h => absurd hF.1 (by omega))⟩, hf.block b hF.1 hF.2⟩
  refine k w B (fun {β} {J} {y} {ds} hr => J.ro_up (J.ro_loc hr fun b hF => (hsub b hF).2) fun b hF => (hsub b hF).1)
    (K.ro_up (K.own_ro hc') fun b hA => ⟨hA.2, fun hB => d b hA.1 hB⟩) (fun m w' hw => ?_) a w h1 h2 h3 ⟨B, hl, fun b hB => .inl hB, Fr.refl _ _⟩
  obtain ⟨S2, s1, s2, s3⟩ := hw
  exact ⟨S2, s1, fun b hS => (s2 b hS).elim (fun hB => hb b (iB b hB)) (fun hle => .inr (Nat.le_trans hf.size hle)), hf.trans s3 fun b hB => hb b (iB b hB)⟩
theorem FJ.upR {w1 : World} {S1 : Bs} {fn : Func} {R : Value → List Asn → Prop} (hup : ∀ l w, WS w1 S1 l w → WS w0 S0 l w) (k : FJ N w1 S1 (bodyPost P fn (TriPost w1 S1 R) .ret) T l) : FJ N w1 S1 (bodyPost P fn (TriPost w0 S0 R) .ret) T l := fun a w h1 h2 h3 h4 => by
  obtain ⟨hd, v, hr, r, m, he, hR, hw⟩ := k a w h1 h2 h3 h4
  exact ⟨hd, v, hr, r, m, he, hR, hup _ _ hw⟩
end
end Go.Proofs.Ytkmcpcahbfdohaa
/- What is proved: what is in the blocks of a disk behind a crash, a flush, a put: plain Lean. No condition. -/
namespace Go.Proofs.Ytkmcpcahbfdohaa
open Go
set_option linter.unusedVariables false
set_option linter.unusedSimpArgs false
theorem keepN_ne {all : Bool} {ks : List Bool} {ps : List DPut} {bs : List (List Int)} {q k : Nat} {p : DPut} {x : List Int} (hp : ps[q]? = some p) (hn : ¬ p.at_.toNat = k) (h : (keepN all ks ps bs q)[k]? = some x) : (keepN all ks ps bs (q + 1))[k]? = some x := by
  unfold keepN
  rw [hp]
  simp only
  split
  · rw [List.getElem?_set_ne hn]; exact h
  · exact h
theorem keepN_eq {all : Bool} {ks : List Bool} {ps : List DPut} {bs : List (List Int)} {q k : Nat} {p : DPut} (hp : ps[q]? = some p) (he : p.at_.toNat = k) (hk : k < bs.length) (ho : (all || ks.getD q false) = true) : (keepN all ks ps bs (q + 1))[k]? = some p.words := by
  unfold keepN
  rw [hp]
  simp only
  rw [if_pos ho, he, List.getElem?_set_self (by rw [keepN_len]; exact hk)]
theorem keepN_no {all : Bool} {ks : List Bool} {ps : List DPut} {bs : List (List Int)} {q k : Nat} {p : DPut} {x : List Int} (hp : ps[q]? = some p) (ho : (all || ks.getD q false) = false) (h : (keepN all ks ps bs q)[k]? = some x) : (keepN all ks ps bs (q + 1))[k]? = some x := by
  unfold keepN
  rw [hp]
  simp only
  rw [if_neg (by rw [ho]; decide)]
  exact h
/-- The words put last, as a flush leaves them. -/
theorem find_rev {ps : List DPut} {bs : List (List Int)} {k : Nat} (hk : k < bs.length) (hps : ∀ p, p ∈ ps → 0 ≤ p.at_) : ∀ q, q ≤ ps.length → (keepN true [] ps bs q)[k]? = some (((((ps.take q).reverse.find? fun p => p.at_ == (k : Int)).map (·.words))).getD (bs.getD k []))
  | 0, _ => by simp [keepN, List.getD_eq_getElem?_getD, List.getElem?_eq_getElem hk]
  | q + 1, hq => by
    have ih := find_rev hk hps q (by omega)
    have hp : ps[q]? = some (ps[q]'(by omega)) := List.getElem?_eq_getElem (by omega)
    obtain ⟨p, hpp⟩ : ∃ p, ps[q]'(by omega) = p := ⟨_, rfl⟩
    rw [hpp] at hp
    have hm := hps p (List.mem_of_getElem? hp)
    have ht : (ps.take (q + 1)).reverse = p :: (ps.take q).reverse := by rw [List.take_add_one, hp]; simp
    rw [ht]
    by_cases he : p.at_ = (k : Int)
    · rw [keepN_eq hp (by omega) hk rfl]
      simp [List.find?, he]
    · rw [keepN_ne hp (by omega) ih]
      have : (p.at_ == (k : Int)) = false := by simpa using he
      simp [List.find?, this]
theorem blockL_last {d : DDisk} (hd : diskFault d = 0) {k : Nat} (hk : k < d.blocks.length) {x : List Int} (h : (keepN true [] d.cache d.blocks d.cache.length)[k]? = some x) : blockL d (k : Int) = x := by
  obtain ⟨h1, h2, h3, h4⟩ := diskOk hd
  have := find_rev (ps := d.cache) (bs := d.blocks) hk (fun p hp => by have := (h4 p hp).1; first | exact this.1 | (unfold placeIn at this; omega) | omega) d.cache.length (Nat.le_refl _)
  rw [h] at this
  have := Option.some.inj this
  unfold blockL
  rw [this, List.take_length, Int.toNat_natCast]
theorem law_codes {d : DDisk} {ks : List Bool} : (crashDisk d ks).code = diskFault d ∧ (flushDisk d).code = diskFault d := by
  by_cases h : diskFault d = 0
  · rw [crashDisk_0 h, flushDisk_0 h, h]; exact ⟨rfl, rfl⟩
  · rw [crashDisk_f h, flushDisk_f h]; exact ⟨rfl, rfl⟩
theorem law_kept {d : DDisk} {ks : List Bool} (h : (crashDisk d ks).code = 0) : diskFault d = 0 ∧ (crashDisk d ks).disk.blocks = keepN false ks d.cache d.blocks d.cache.length ∧ (flushDisk d).disk.blocks = keepN true [] d.cache d.blocks d.cache.length ∧ (crashDisk d ks).disk.cache = [] ∧ (flushDisk d).disk.cache = [] ∧ (crashDisk d ks).disk.blocks.length = d.blocks.length ∧ (flushDisk d).disk.blocks.length = d.blocks.length := by
  rw [law_codes.1] at h
  rw [crashDisk_0 h, flushDisk_0 h]
  exact ⟨h, rfl, rfl, rfl, rfl, keepN_len _, keepN_len _⟩
/-- A put, and a new disk as large. -/
theorem law_put {d : DDisk} (h : diskFault d = 0) : ((putBlock d 0 [5, 6]).code = 2 ↔ (d.cache.length : Int) = 200) ∧ ((putBlock d 0 [5, 6]).code = 0 → (blockAt (putBlock d 0 [5, 6]).disk 0).list = [5, 6]) ∧ (newDisk (d.blocks.length : Int)).code = 0 ∧ (newDisk (d.blocks.length : Int)).disk.blocks.length = d.blocks.length := by
  obtain ⟨h1, h2, h3, h4⟩ := diskOk h
  have hw : wordsFault [5, 6] = 0 := by decide
  refine ⟨?_, ?_, ?_, ?_⟩
  · by_cases hp : placeIn d.blocks.length 0
    · by_cases hc : 200 ≤ d.cache.length
      · rw [putBlock_2 h hp hw hc]
        constructor
        · intro _; omega
        · intro _; rfl
      · rw [putBlock_0 h hp hw hc]
        constructor
        · intro e; exact absurd (show (0 : Int) = 2 from e) (by decide)
        · intro e; omega
    · rw [putBlock_3 h hp]
      constructor
      · intro e; exact absurd e (by decide)
      · intro e
        exfalso
        have hb : d.blocks.length = 0 := by unfold placeIn at hp; omega
        have hc : 0 < d.cache.length := by omega
        have := (h4 _ (List.getElem_mem hc)).1
        first
          | (unfold placeIn at this; omega)
          | omega
  · intro e
    by_cases hp : placeIn d.blocks.length 0
    · by_cases hc : 200 ≤ d.cache.length
      · rw [putBlock_2 h hp hw hc] at e; exact absurd e (by decide)
      · rw [putBlock_0 h hp hw hc]
        have hd : diskFault (⟨d.blocks, d.cache ++ [⟨0, [5, 6]⟩]⟩ : DDisk) = 0 := by
          refine diskFault_0 (by simp only; omega) (by simp only [List.length_append, List.length_cons, List.length_nil]; omega) (fun j y _ hy => h3 y (List.mem_of_getElem? hy)) (fun j y _ hy => ?_)
          have hy := List.mem_of_getElem? hy
          simp only [List.mem_append, List.mem_singleton] at hy
          rcases hy with hy | rfl
          · have := h4 y hy
            unfold putFault
            first
              | (rw [if_pos this.1]; exact this.2)
              | simp [this]
          · unfold putFault
            first
              | (rw [if_pos hp]; exact hw)
              | simp [hp, hw]
        rw [blockAt_0 (blockFault_0 hd hp)]
        show blockL _ 0 = [5, 6]
        unfold blockL
        simp [List.find?]
    · rw [putBlock_3 h hp] at e; exact absurd e (by decide)
  · unfold newDisk; first | (rw [if_pos (by omega)]) | (split <;> simp_all <;> omega)
  · unfold newDisk; first | (rw [if_pos (by omega)]; simp) | (split <;> simp_all <;> omega)
end Go.Proofs.Ytkmcpcahbfdohaa

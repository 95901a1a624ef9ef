/- What is proved: the library's contracts of Sort and Compact over rows of numbers, told of one's own slice. No condition. -/
import Derived.Test.YticaddophhggoaaBase1
import Derived.Sort.Row
import Derived.Sort.Grow
namespace Go.Proofs.Yticaddophhggoaa
open Go Go.RowKit
open Go.Sort (putRow grow putCells mapBlock)
set_option linter.unusedVariables false
set_option linter.unusedSimpArgs false
theorem kint_cells {k : IntKind} {w : World} {S : Bs} : ∀ {zs : List Int} {css : List (List Value)}, css.length = zs.length → Star (seqA (kint k) zs css) w S → css = zs.map (fun z => [Value.int k z])
  | [], [], _, _ => rfl
  | z :: zs, c :: css, hl, h => by
    have h1 : (kint k).own w S z c := h.head (c := ownA (kint k) z c)
    rw [kint_cells (by simpa using hl) (h.drop (c := ownA (kint k) z c)), List.map_cons, h1.1]
  | [], _ :: _, hl, _ => by simp at hl
  | _ :: _, [], hl, _ => by simp at hl
theorem kint_seq {k : IntKind} {w : World} {S : Bs} : ∀ zs : List Int, Star (seqA (kint k) zs (zs.map (fun z => [Value.int k z]))) w S
  | [] => trivial
  | z :: zs => ⟨fun _ => False, S, ⟨rfl, trivial⟩, kint_seq zs, fun _ h => h.elim, fun _ h => h, fun _ h => h.elim⟩
theorem flat1 {k : IntKind} (zs : List Int) : (zs.map (fun z => [Value.int k z])).flatten = zs.map (Value.int k) := by
  induction zs with
  | nil => rfl
  | cons z zs ih => simp [ih]
/-- A row of numbers of one's own: its block, as the library's contracts ask. -/
theorem own_holds {e by_ : Nat} {w : World} {S : Bs} {zs : List Int} {v : Value} (h : (kslice e by_ (kint .i64)).own w S zs [v]) (hp : 0 < zs.length) :
    ∃ g c, v = .slice (some ⟨g, 0, none⟩) zs.length c ∧ zs.length ≤ c ∧ g < w.heap.size ∧ Go.Sort.Holds (Value.int .i64) w g 0 zs.toArray ∧ zs.length * by_ ≤ 140737488355328 ∧ c ≤ 9223372036854775807 ∧
      ∀ (zs' : List Int) (n : Nat) (os : Array Obj), zs'.length = zs.length → (kslice e by_ (kint .i64)).own (grow (putRow (Value.int .i64) (Sort.ahead w n) g 0 zs'.toArray) os) S zs' [v] ∧ Fr w S (grow (putRow (Value.int .i64) (Sort.ahead w n) g 0 zs'.toArray) os) := by
  rcases h with ⟨A, h1, rfl⟩ | ⟨g, c, css, h1, h2, h3, h4, h5, h6⟩
  · exact absurd hp (by simp)
  obtain rfl : v = .slice (some ⟨g, 0, none⟩) zs.length c := by simpa using h1
  obtain ⟨S1, S2, ⟨hg, cur, k1, k2, k3, k4⟩, hseq, a1, a2, a3⟩ := h6
  have hcss := kint_cells h5 hseq
  subst hcss
  rw [flat1] at k3 k4
  simp only [List.length_map] at k3 k4
  have hlt : g < w.heap.size := (Array.getElem?_eq_some_iff.1 k1).1
  have hcell : ∀ j, j < zs.length → cur[j]? = some (.int .i64 (zs[j]!)) := fun j hj => by
    have : (cur.toList.take zs.length)[j]? = (zs.map (Value.int .i64))[j]? := by rw [k4]
    rw [List.getElem?_take, if_pos hj, List.getElem?_map, List.getElem?_eq_getElem hj] at this
    rw [Array.getElem?_toList] at this
    rw [this, getElem!_pos zs j hj]
    rfl
  refine ⟨g, c, rfl, h2, hlt, fun j hj => ⟨?_, ?_⟩, h4, h3, fun zs' n os hl => ?_⟩
  · have hj' : j < zs.length := by simpa using hj
    rw [cell_of_row w g (0 + j) cur e (0, 0) k1, Nat.zero_add, hcell j hj']
    simp [getElem!_pos zs j hj', getElem!_pos zs.toArray j hj]
  · simp [World.frozen?, k1]
  · have hb : (grow (putRow (Value.int .i64) (Sort.ahead w n) g 0 zs'.toArray) os).heap[g]? = some (.cells (putCells (Value.int .i64) 0 zs'.toArray cur) e (0, 0)) := by
      simp only [grow, putRow, mapBlock, Sort.ahead]
      rw [Array.getElem?_append_left (by simpa using hlt), Array.getElem?_modify, if_pos rfl, k1]
      rfl
    have ho : ∀ b, b < w.heap.size → b ≠ g → (grow (putRow (Value.int .i64) (Sort.ahead w n) g 0 zs'.toArray) os).heap[b]? = w.heap[b]? := fun b hb hne => by
      simp only [grow, putRow, mapBlock, Sort.ahead]
      rw [Array.getElem?_append_left (by simpa using hb), Array.getElem?_modify, if_neg (fun e => hne e.symm)]
    have hsz : w.heap.size ≤ (grow (putRow (Value.int .i64) (Sort.ahead w n) g 0 zs'.toArray) os).heap.size := by simp [grow, putRow, mapBlock, Sort.ahead]
    have hfr : Fr w S (grow (putRow (Value.int .i64) (Sort.ahead w n) g 0 zs'.toArray) os) := ⟨rfl, rfl, rfl, hsz, fun b hb hn => ho b hb (fun e => hn (e ▸ a1 g hg))⟩
    refine ⟨.inr ⟨g, c, zs'.map (fun z => [Value.int .i64 z]), by rw [hl], by omega, h3, by rw [hl]; exact h4, by simp, ?_⟩, hfr⟩
    refine ⟨S1, fun _ => False, ⟨hg, _, hb, ?_, ?_, ?_⟩, kint_seq zs', a1, fun _ h => h.elim, fun _ _ h => h⟩
    · simpa [putCells] using k2
    · rw [flat1]
      simp only [putCells, Array.size_mapIdx, List.length_map]
      omega
    · rw [flat1]
      apply List.ext_getElem?
      intro j
      rw [List.getElem?_take, List.length_map]
      split
      · rename_i hj
        have hjc : j < cur.size := by omega
        rw [Array.getElem?_toList, putCells, Array.getElem?_mapIdx, Array.getElem?_eq_getElem hjc, Option.map_some, if_pos ⟨by omega, by simpa using hj⟩, List.getElem?_map, List.getElem?_eq_getElem hj, Option.map_some]
        simp [getElem!_pos zs'.toArray j (by simpa using hj)]
      · rw [List.getElem?_eq_none (by rw [List.length_map]; omega)]
theorem own_zero {e by_ : Nat} {w : World} {S : Bs} {zs : List Int} {v : Value} (h : (kslice e by_ (kint .i64)).own w S zs [v]) (hp : ¬ 0 < zs.length) : zs = [] ∧ ∃ A c, v = .slice A 0 c := by
  have h0 : zs = [] := List.length_eq_zero_iff.1 (by omega)
  subst h0
  obtain ⟨A, c, h1, _⟩ := own_form h
  exact ⟨rfl, A, c, by simpa using h1⟩
/-- Sorting. -/
theorem sort_con {P : Program} {f : FuncId} {e by_ : Nat} {w0 : World} {S0 : Bs} {zs : List Int} {v0 : Value}
    (h1 : ∀ (blk off cap : Nat) (zs : List Int) (w : World), Go.Sort.Holds (Value.int .i64) w blk off zs.toArray → blk < w.heap.size → zs.length < 4611686018427387904 → Calls P f #[.slice (some ⟨blk, off, none⟩) zs.length cap] w fun e w' => e = .returned (.tuple #[]) ∧ ∃ n os, w' = grow (putRow (Value.int .i64) (Sort.ahead w n) blk off (zs.mergeSort fun x y => decide (x ≤ y)).toArray) os)
    (h2 : ∀ (p : Option Addr) (cap : Nat) (w : World), Calls P f #[.slice p 0 cap] w fun e w' => e = .returned (.tuple #[]) ∧ w' = w) (h8 : 8 ≤ by_)
    (hs : Star [ownA (kslice e by_ (kint .i64)) zs [v0]] w0 S0) : Calls P f #[v0] w0 (TriPost w0 S0 (fun r l => r = .tuple #[] ∧ l = [ownA (kslice e by_ (kint .i64)) (sortI zs) [v0]])) := by
  have ho : (kslice e by_ (kint .i64)).own w0 S0 zs [v0] := hs.head (c := ownA (kslice e by_ (kint .i64)) zs [v0])
  by_cases hp : 0 < zs.length
  · obtain ⟨g, c, rfl, g1, g2, g3, g4, g5, g6⟩ := own_holds ho hp
    have hb : zs.length * 8 ≤ zs.length * by_ := Nat.mul_le_mul_left _ h8
    refine (h1 g 0 c zs w0 g3 g2 (by omega)).mono fun e' w' ⟨he, n, os, hw⟩ => ?_
    obtain ⟨k1, k2⟩ := g6 (sortI zs) n os (sortI_len zs)
    have hw' : w' = grow (putRow (Value.int .i64) (Sort.ahead w0 n) g 0 (sortI zs).toArray) os := hw
    subst hw'
    exact ⟨_, _, he, ⟨rfl, rfl⟩, S0, Star.one (c := ownA (kslice e by_ (kint .i64)) (sortI zs) _) k1, fun b hb => .inl hb, k2⟩
  · obtain ⟨rfl, A, c, rfl⟩ := own_zero ho hp
    refine (h2 A c w0).mono fun e' w' ⟨he, hw⟩ => ?_
    subst hw
    have e0 : sortI [] = [] := by simp [sortI]
    exact ⟨_, _, he, ⟨rfl, rfl⟩, S0, by rw [e0]; exact hs, fun b hb => .inl hb, Fr.refl _ _⟩
theorem grow_nil (w : World) : grow w #[] = w := by cases w; simp [grow]
/-- Compact: how many stay. -/
theorem compact_con {P : Program} {f : FuncId} {e by_ : Nat} {w0 : World} {S0 : Bs} {zs : List Int} {v0 : Value}
    (h1 : ∀ (blk off cap : Nat) (zs : List Int) (w : World), Go.Sort.Holds (Value.int .i64) w blk off zs.toArray → zs.length ≤ 9223372036854775807 → zs.length ≤ cap → Calls P f #[.slice (some ⟨blk, off, none⟩) zs.length cap] w fun e w' => e = .returned (.slice (some ⟨blk, off, none⟩) (Lib.compact zs).length cap) ∧ ∃ q, w' = putRow (Value.int .i64) (Sort.ahead w q) blk off (Lib.compact zs ++ List.replicate (zs.length - (Lib.compact zs).length) 0).toArray)
    (h2 : ∀ (a : Option Addr) (cap : Nat) (w : World), Calls P f #[.slice a 0 cap] w fun e w' => e = .returned (.slice a 0 cap) ∧ w' = w)
    (hs : Star [ownA (kslice e by_ (kint .i64)) zs [v0]] w0 S0) : Calls P f #[v0] w0 (TriPost w0 S0 (fun r l => ∃ z : Option Addr × Nat, r = .slice z.1 (Lib.compact zs).length z.2 ∧ l = [])) := by
  have ho : (kslice e by_ (kint .i64)).own w0 S0 zs [v0] := hs.head (c := ownA (kslice e by_ (kint .i64)) zs [v0])
  by_cases hp : 0 < zs.length
  · obtain ⟨g, c, rfl, g1, g2, g3, g4, g5, g6⟩ := own_holds ho hp
    refine (h1 g 0 c zs w0 g3 (by omega) g1).mono fun e' w' ⟨he, q, hw⟩ => ?_
    obtain ⟨k1, k2⟩ := g6 (Lib.compact zs ++ List.replicate (zs.length - (Lib.compact zs).length) 0) q #[] (by have := compact_len zs; simp; omega)
    have hw' : w' = grow (putRow (Value.int .i64) (Sort.ahead w0 q) g 0 (Lib.compact zs ++ List.replicate (zs.length - (Lib.compact zs).length) 0).toArray) #[] := by rw [hw, grow_nil]
    subst hw'
    exact ⟨_, _, he, ⟨(_, _), rfl, rfl⟩, S0, trivial, fun b hb => .inl hb, k2⟩
  · obtain ⟨rfl, A, c, rfl⟩ := own_zero ho hp
    refine (h2 A c w0).mono fun e' w' ⟨he, hw⟩ => ?_
    subst hw
    have e0 : (Lib.compact ([] : List Int)).length = 0 := rfl
    exact ⟨_, _, he, ⟨(A, c), by rw [e0], rfl⟩, S0, trivial, fun b hb => .inl hb, Fr.refl _ _⟩
theorem FJ.chEq {N : Nat} {w0 : World} {S0 : Bs} {F : Act → World → Prop} {T : Slots} {l l' : List Asn} {c c' : Asn} (h : Take l c l') (e : c = c') (k : FJ N w0 S0 F T (c' :: l')) : FJ N w0 S0 F T l := by subst e; exact FJ.take h k
/-! ### the head of a slice of one's own -/
theorem own_take {α : Type} {K : Kd α} {e by_ n c : Nat} {xs : List α} {A : Option Addr} (hn : n ≤ xs.length) (w : World) (S : Bs) (h : Star [ownA (kslice e by_ K) xs [.slice A xs.length c]] w S) : (ownA (kslice e by_ K) (xs.take n) [.slice A n c]).p w S := by
  have hl : (xs.take n).length = n := by rw [List.length_take]; omega
  rcases (show (kslice e by_ K).own w S xs [.slice A xs.length c] from h.head (c := ownA (kslice e by_ K) xs _)) with ⟨A', h1, rfl⟩ | ⟨g, c', css, h1, h2, h3, h4, h5, h6⟩
  · obtain rfl : n = 0 := by simpa using hn
    injection h1 with h1 _
    injection h1 with h1 h2 h3
    subst h3
    exact .inl ⟨A, rfl, rfl⟩
  · injection h1 with h1 _
    injection h1 with h1 _ h3'
    subst h1; subst h3'
    obtain ⟨S1, S2, ⟨hg, cur, k1, k2, k3, k4⟩, hseq, a1, a2, a3⟩ := h6
    have hlc := seq_len h5 hseq
    have hft := flatten_take hlc n
    refine .inr ⟨g, c, css.take n, by rw [hl], by omega, h3, ?_, by rw [List.length_take, List.length_take, h5], ?_⟩
    · rw [hl]; exact Nat.le_trans (Nat.mul_le_mul_right _ hn) h4
    · refine ⟨S1, S2, ⟨hg, cur, k1, k2, ?_, ?_⟩, ?_, a1, a2, a3⟩
      · rw [hft, List.length_take]; omega
      · rw [hft, List.length_take]
        have : cur.toList.take (min (n * K.sz) css.flatten.length) = (cur.toList.take css.flatten.length).take (n * K.sz) := by rw [List.take_take]
        rw [this, k4]
      · have : seqA K (xs.take n) (css.take n) = (seqA K xs css).take n := by simp [seqA, List.take_zipWith]
        rw [this]
        exact Star.sublist (List.take_sublist _ _) hseq
theorem own_take' {α : Type} {K : Kd α} {e by_ n c : Nat} {xs : List α} {A : Option Addr} (hn : n ≤ xs.length) (w : World) (S : Bs) (h : Star [ownA (kslice e by_ K) xs [.slice A xs.length c]] w S) : (ownA (kslice e by_ K) (xs.take n) [.slice A (xs.take n).length c]).p w S := by
  have := own_take hn w S h
  rwa [show (xs.take n).length = n by rw [List.length_take]; omega]
theorem WS.ocap {w0 : World} {S0 : Bs} {l l' : List Asn} {α : Type} {K : Kd α} {e by_ : Nat} {xs : List α} {A : Option Addr} {n c : Nat} (ht : Take l (ownA (kslice e by_ K) xs [.slice A n c]) l') : ∀ w, WS w0 S0 l w → n = xs.length ∧ n ≤ c ∧ c ≤ 9223372036854775807 ∧ n * by_ ≤ 140737488355328 := fun w hw => by
  obtain ⟨A', c', h, h1, h2, h3⟩ := WS.oform ht w hw
  injection h with _ h4 h5
  subst h4; subst h5
  exact ⟨rfl, h1, h2, h3⟩
section
variable {P : Program} {T : Slots} {Wd : World → Prop} {o : Oper}
theorem q_sliceTake {x : Operand} {t e : TypeId} {sz b n c : Nat} {z : Operand} {k : IntKind} {A : Option Addr} (ho : o.op = .slice t x none (some z) none) (ht : P.underlying t = some (.slice e)) (he : (P.info? e).map (·.size) = some sz) (hx : Val T x (.slice A n c)) (hz : Val T z (.int k (b : Int))) (h : b ≤ c) : Quiet P o T Wd (.slice A b c) := by
  have := q_slice (a := 0) (b := b) (Wd := Wd) ho ht he hx (.inl ⟨rfl, rfl⟩) (.inr ⟨_, _, rfl, hz⟩) (by omega) h
  have e1 : (if c = 0 then A else A.map (·.add (0 * sz))) = A := by
    split
    · rfl
    · cases A with
      | none => rfl
      | some a => simp [Addr.add]
  rw [e1] at this
  simpa using this
end
end Go.Proofs.Yticaddophhggoaa
/- What is proved: what can be reached in a tree, by a stack and by rounds, in plain Lean. No condition. -/
namespace Go.Proofs.Yticaddophhggoaa
open Go Go.RowKit
set_option linter.unusedVariables false
set_option linter.unusedSimpArgs false
inductive Reach (xs : List DInode) (r : Nat) : Nat → Prop
  | refl : Reach xs r r
  | step {i q : Nat} {x : DInode} {e : DEnt} : Reach xs r i → xs[i]? = some x → x.ents[q]? = some e → Reach xs r e.ino.toNat
noncomputable def reachP (xs : List DInode) (r : Nat) : Int → Bool := fun a => @decide (Reach xs r a.toNat) (Classical.propDecidable _)
noncomputable def reachL (xs : List DInode) (r : Nat) : List Int := placesTo (reachP xs r) xs.length
theorem reachP_iff {xs : List DInode} {r : Nat} {a : Int} : reachP xs r a = true ↔ Reach xs r a.toNat := by
  unfold reachP
  exact @decide_eq_true_iff _ (Classical.propDecidable _)
/-- What is seen: a list of truths. -/
abbrev On (b : List Bool) (i : Nat) : Prop := b[i]? = some true
theorem on_set {b : List Bool} {j i : Nat} (hj : j < b.length) : On (b.set j true) i ↔ (i = j ∨ On b i) := by
  unfold On
  rw [List.getElem?_set]
  by_cases h : j = i
  · subst h; simp [hj]
  · rw [if_neg h]
    constructor
    · exact .inr
    · rintro (rfl | h2)
      · exact absurd rfl h
      · exact h2
theorem reach_sub {xs : List DInode} {r : Nat} {S : Nat → Prop} (h0 : S r) (hc : ∀ (i q : Nat) x e, S i → xs[i]? = some x → x.ents[q]? = some e → S e.ino.toNat) : ∀ i, Reach xs r i → S i := fun i h => by
  induction h with
  | refl => exact h0
  | step _ hx he ih => exact hc _ _ _ _ ih hx he
theorem reach_lt {xs : List DInode} {r : Nat} (hI : inodesFault xs = 0) (hG : ∀ (j : Nat) x, xs[j]? = some x → goodX xs x) (hr : r < xs.length) : ∀ i, Reach xs r i → i < xs.length :=
  reach_sub hr fun i q x e _ hx he => by
    have h1 := ent_in (hG i x hx q e he)
    have h2 := ents_ok (inodes_all hI x (List.mem_of_getElem? hx)) q e he
    omega
/-! ### the stack -/
structure Dfs (xs : List DInode) (r : Nat) (b : List Bool) (op : List Int) : Prop where
  len : b.length = xs.length
  snd : ∀ i, On b i → Reach xs r i
  opn : ∀ a, a ∈ op → (0 ≤ a ∧ a < (xs.length : Int)) ∧ Reach xs r a.toNat
  top : On b r ∨ (r : Int) ∈ op
  cls : ∀ (i q : Nat) x e, On b i → xs[i]? = some x → x.ents[q]? = some e → On b e.ino.toNat ∨ e.ino ∈ op
theorem dfs_init {xs : List DInode} {r : Nat} (hr : r < xs.length) : Dfs xs r (List.replicate xs.length false) [(r : Int)] where
  len := by simp
  snd i h := by
    exfalso
    unfold On at h
    rw [List.getElem?_replicate] at h
    split at h <;> simp at h
  opn a ha := by
    obtain rfl := List.mem_singleton.1 ha
    exact ⟨by omega, by rw [Int.toNat_natCast]; exact .refl⟩
  top := .inr (List.mem_singleton.2 rfl)
  cls i q x e h := by
    exfalso
    unfold On at h
    rw [List.getElem?_replicate] at h
    split at h <;> simp at h
theorem take_last {α : Type} {op : List α} {a : α} (ha : op[op.length - 1]? = some a) : op = op.take (op.length - 1) ++ [a] := by
  have := take_snoc ha
  rw [this, List.take_of_length_le]
  have := (List.getElem?_eq_some_iff.1 ha).1
  omega
theorem dfs_seen {xs : List DInode} {r : Nat} {b : List Bool} {op : List Int} {a : Int} (h : Dfs xs r b op) (ha : op[op.length - 1]? = some a) (hs : On b a.toNat) : Dfs xs r b (op.take (op.length - 1)) := by
  have he := take_last ha
  have hm : ∀ c, c ∈ op → c = a ∨ c ∈ op.take (op.length - 1) := fun c hc => by
    rw [he] at hc
    rcases List.mem_append.1 hc with h1 | h1
    · exact .inr h1
    · exact .inl (List.mem_singleton.1 h1)
  refine ⟨h.len, h.snd, fun c hc => h.opn c (List.mem_of_mem_take hc), ?_, fun i q x e hi hx hq => ?_⟩
  · rcases h.top with h1 | h1
    · exact .inl h1
    · rcases hm _ h1 with h2 | h2
      · exact .inl (by rw [← h2, Int.toNat_natCast] at hs; exact hs)
      · exact .inr h2
  · rcases h.cls i q x e hi hx hq with h1 | h1
    · exact .inl h1
    · rcases hm _ h1 with h2 | h2
      · exact .inl (by rw [h2]; exact hs)
      · exact .inr h2
def inosTo (es : List DEnt) (k : Nat) : List Int := (es.take k).map (·.ino)
theorem inosTo_s {op : List Int} {es : List DEnt} {k : Nat} {e : DEnt} (h : es[k]? = some e) : (op ++ inosTo es k) ++ [e.ino] = op ++ inosTo es (k + 1) := by
  unfold inosTo
  rw [← take_snoc h, List.map_append, List.append_assoc]
  rfl
theorem inosTo_0 (op : List Int) (es : List DEnt) : op = op ++ inosTo es 0 := by simp [inosTo]
theorem inosTo_len {es : List DEnt} {k : Nat} : (inosTo es k).length ≤ es.length := by
  unfold inosTo; rw [List.length_map, List.length_take]; omega
theorem dfs_new {xs : List DInode} {r : Nat} {b : List Bool} {op : List Int} {a : Int} {x : DInode} {k : Nat} (hI : inodesFault xs = 0) (hG : ∀ (j : Nat) x, xs[j]? = some x → goodX xs x) (h : Dfs xs r b op) (ha : op[op.length - 1]? = some a) (hx : xs[a.toNat]? = some x) (hk : x.ents.length ≤ k) :
    Dfs xs r (b.set a.toNat true) (op.take (op.length - 1) ++ inosTo x.ents k) := by
  have he := take_last ha
  have hmem : a ∈ op := by rw [he]; exact List.mem_append.2 (.inr (List.mem_singleton.2 rfl))
  have hop := h.opn a hmem
  have hlt : a.toNat < b.length := by rw [h.len]; omega
  have hm : ∀ c, c ∈ op → c = a ∨ c ∈ op.take (op.length - 1) := fun c hc => by
    rw [he] at hc
    rcases List.mem_append.1 hc with h1 | h1
    · exact .inr h1
    · exact .inl (List.mem_singleton.1 h1)
  have hin : inosTo x.ents k = x.ents.map (·.ino) := by unfold inosTo; rw [List.take_of_length_le hk]
  refine ⟨by rw [List.length_set]; exact h.len, fun i hi => ?_, fun c hc => ?_, ?_, fun i q y e hi hy hq => ?_⟩
  · rcases (on_set hlt).1 hi with rfl | h1
    · exact hop.2
    · exact h.snd i h1
  · rcases List.mem_append.1 hc with h1 | h1
    · exact h.opn c (List.mem_of_mem_take h1)
    · rw [hin] at h1
      obtain ⟨e, hem, rfl⟩ := List.mem_map.1 h1
      obtain ⟨q, hq⟩ := List.mem_iff_getElem?.1 hem
      have h2 := ent_in (hG _ x hx q e hq)
      have h3 := ents_ok (inodes_all hI x (List.mem_of_getElem? hx)) q e hq
      exact ⟨⟨h3.2.1, h2⟩, .step hop.2 hx hq⟩
  · rcases h.top with h1 | h1
    · exact .inl ((on_set hlt).2 (.inr h1))
    · rcases hm _ h1 with h2 | h2
      · exact .inl ((on_set hlt).2 (.inl (by rw [← h2, Int.toNat_natCast])))
      · exact .inr (List.mem_append.2 (.inl h2))
  · rcases (on_set hlt).1 hi with rfl | h1
    · rw [hx] at hy
      obtain rfl := Option.some.inj hy
      exact .inr (List.mem_append.2 (.inr (by rw [hin]; exact List.mem_map.2 ⟨e, List.mem_of_getElem? hq, rfl⟩)))
    · rcases h.cls i q y e h1 hy hq with h2 | h2
      · exact .inl ((on_set hlt).2 (.inr h2))
      · rcases hm _ h2 with h3 | h3
        · exact .inl ((on_set hlt).2 (.inl (by rw [h3])))
        · exact .inr (List.mem_append.2 (.inl h3))
theorem dfs_end {xs : List DInode} {r : Nat} {b : List Bool} {op : List Int} (h : Dfs xs r b op) (h0 : op.length = 0) : ∀ i, On b i ↔ Reach xs r i := by
  obtain rfl := List.length_eq_zero_iff.1 h0
  have hr : On b r := h.top.elim id (fun h => by cases h)
  exact fun i => ⟨h.snd i, reach_sub hr (fun i q x e hi hx hq => (h.cls i q x e hi hx hq).elim id (fun h => by cases h)) i⟩
/-- How many are not seen yet. -/
def offN (b : List Bool) : Nat := b.count false
theorem offN_set : ∀ {b : List Bool} {j : Nat}, b[j]? = some false → offN (b.set j true) + 1 = offN b
  | [], j, h => by simp at h
  | c :: b, 0, h => by
    simp at h
    subst h
    simp [offN]
  | c :: b, j + 1, h => by
    have ih := offN_set (b := b) (j := j) (by simpa using h)
    unfold offN at ih ⊢
    simp only [List.set_cons_succ, List.count_cons]
    omega
theorem not_on {b : List Bool} {j : Nat} (hj : j < b.length) (h : ¬ On b j) : b[j]? = some false := by
  unfold On at h
  rw [List.getElem?_eq_getElem hj] at h ⊢
  cases hb : b[j]
  · rfl
  · exact absurd (by rw [hb]) h
/-! ### the list of what is seen -/
abbrev onP (b : List Bool) : Int → Bool := fun a => b.getD a.toNat false
theorem onP_of {b : List Bool} {k : Nat} {c : Bool} (h : b[k]? = some c) : onP b (k : Int) = c := by
  unfold onP
  rw [Int.toNat_natCast, List.getD_eq_getElem?_getD, h]
  rfl
theorem seen_reach {xs : List DInode} {r : Nat} {b : List Bool} {k : Nat} (h : ∀ i, On b i ↔ Reach xs r i) (hl : b.length = xs.length) (hk : k = b.length) : placesTo (onP b) k = reachL xs r := by
  unfold reachL
  rw [hk, hl]
  refine placesTo_congr fun a h1 h2 => ?_
  rw [Bool.eq_iff_iff, reachP_iff, ← h]
  unfold onP On
  rw [List.getD_eq_getElem?_getD]
  cases hb : b[a.toNat]? with
  | none => simp
  | some c => simp
/-! ### the rounds -/
abbrev LeB (b c : List Bool) : Prop := ∀ i, On b i → On c i
def onN (b : List Bool) : Nat := b.count true
theorem onN_len (b : List Bool) : onN b ≤ b.length := List.count_le_length
theorem onN_lt : ∀ {b c : List Bool}, b.length = c.length → LeB b c → b = c ∨ onN b < onN c
  | [], [], _, _ => .inl rfl
  | x :: b, y :: c, hl, hle => by
    have h1 : LeB b c := fun i hi => by have := hle (i + 1) (by simpa [On] using hi); simpa [On] using this
    have h0 : x = true → y = true := fun hx => by have := hle 0 (by simp [On, hx]); simpa [On] using this
    rcases onN_lt (b := b) (c := c) (by simpa using hl) h1 with rfl | h2
    · cases x <;> cases y <;> simp [onN] at h0 ⊢
    · right
      unfold onN at h2 ⊢
      simp only [List.count_cons]
      cases x <;> cases y <;> simp at h0 ⊢ <;> omega
  | [], _ :: _, hl, _ => by simp at hl
  | _ :: _, [], hl, _ => by simp at hl
abbrev Clo (xs : List DInode) (b : List Bool) : Prop := ∀ (i q : Nat) x e, On b i → xs[i]? = some x → x.ents[q]? = some e → On b e.ino.toNat
/-- At a round's head. -/
structure Rnd (xs : List DInode) (k : Nat) (b : List Bool) : Prop where
  len : b.length = xs.length
  snd : ∀ i, On b i → Reach xs 0 i
  top : On b 0
  prog : Clo xs b ∨ k + 1 ≤ onN b
/-- Within a round that began at b0: the places below i are done. -/
structure Mid (xs : List DInode) (b0 : List Bool) (i : Nat) (b : List Bool) : Prop where
  len : b.length = xs.length
  snd : ∀ i, On b i → Reach xs 0 i
  le : LeB b0 b
  don : ∀ (j q : Nat) x e, j < i → On b0 j → xs[j]? = some x → x.ents[q]? = some e → On b e.ino.toNat
theorem mid_init {xs : List DInode} {k : Nat} {b : List Bool} (h : Rnd xs k b) : Mid xs b 0 b := ⟨h.len, h.snd, fun _ h => h, fun j _ _ _ hj => absurd hj (Nat.not_lt_zero j)⟩
theorem rnd_next {xs : List DInode} {k i : Nat} {b0 b : List Bool} (h0 : Rnd xs k b0) (h : Mid xs b0 i b) (hi : xs.length ≤ i) : Rnd xs (k + 1) b := by
  refine ⟨h.len, h.snd, h.le 0 h0.top, ?_⟩
  have hd : ∀ (j q : Nat) x e, On b0 j → xs[j]? = some x → x.ents[q]? = some e → On b e.ino.toNat := fun j q x e hj hx hq => h.don j q x e (by have := (List.getElem?_eq_some_iff.1 hx).1; omega) hj hx hq
  rcases onN_lt (h0.len.trans h.len.symm) h.le with rfl | hlt
  · exact .inl hd
  · rcases h0.prog with hc | hc
    · exfalso
      have : b0 = b := by
        have hle : LeB b b0 := fun j hj => reach_sub h0.top hc j (h.snd j hj)
        rcases onN_lt (h.len.trans h0.len.symm) hle with h1 | h1
        · exact h1.symm
        · omega
      subst this
      omega
    · exact .inr (by omega)
theorem rnd_end {xs : List DInode} {k : Nat} {b : List Bool} (h : Rnd xs k b) (hk : xs.length ≤ k) : ∀ i, On b i ↔ Reach xs 0 i := by
  have hc : Clo xs b := h.prog.elim id (fun h1 => by have := onN_len b; have := h.len; omega)
  exact fun i => ⟨h.snd i, reach_sub h.top hc i⟩
/-- Within place i: the entries below q are done. -/
structure Inn (xs : List DInode) (b0 : List Bool) (i : Nat) (x : DInode) (q : Nat) (b : List Bool) : Prop where
  mid : Mid xs b0 i b
  don : ∀ (j : Nat) e, j < q → x.ents[j]? = some e → On b e.ino.toNat
theorem inn_init {xs : List DInode} {b0 b : List Bool} {i : Nat} {x : DInode} (h : Mid xs b0 i b) : Inn xs b0 i x 0 b := ⟨h, fun j _ hj => absurd hj (Nat.not_lt_zero j)⟩
theorem inn_next {xs : List DInode} {b0 b : List Bool} {i q : Nat} {x : DInode} {e : DEnt} (h : Inn xs b0 i x q b) (hx : xs[i]? = some x) (he : x.ents[q]? = some e) (hb : On b i) (hl : e.ino.toNat < b.length) : Inn xs b0 i x (q + 1) (b.set e.ino.toNat true) := by
  have up : ∀ j, On b j → On (b.set e.ino.toNat true) j := fun j hj => (on_set hl).2 (.inr hj)
  refine ⟨⟨by rw [List.length_set]; exact h.mid.len, fun j hj => ?_, fun j hj => up j (h.mid.le j hj), fun j p y d hj hb0 hy hd => up _ (h.mid.don j p y d hj hb0 hy hd)⟩, fun j d hj hd => ?_⟩
  · rcases (on_set hl).1 hj with rfl | h1
    · exact .step (h.mid.snd i hb) hx he
    · exact h.mid.snd j h1
  · by_cases hq : j < q
    · exact up _ (h.don j d hq hd)
    · obtain rfl : j = q := by omega
      rw [he] at hd
      obtain rfl := Option.some.inj hd
      exact (on_set hl).2 (.inl rfl)
theorem mid_next {xs : List DInode} {b0 b : List Bool} {i q : Nat} {x : DInode} (h : Inn xs b0 i x q b) (hx : xs[i]? = some x) (hq : On b i → x.ents.length ≤ q) : Mid xs b0 (i + 1) b := by
  refine ⟨h.mid.len, h.mid.snd, h.mid.le, fun j p y d hj hb0 hy hd => ?_⟩
  by_cases hji : j < i
  · exact h.mid.don j p y d hji hb0 hy hd
  · obtain rfl : j = i := by omega
    rw [hx] at hy
    obtain rfl := Option.some.inj hy
    have := hq (h.mid.le _ hb0)
    exact h.don p d (by have := (List.getElem?_eq_some_iff.1 hd).1; omega) hd
theorem rnd_init {xs : List DInode} (h0 : 0 < xs.length) : Rnd xs 0 ((List.replicate xs.length false).set 0 true) := by
  have hl : 0 < (List.replicate xs.length false).length := by simpa using h0
  refine ⟨by simp, fun i hi => ?_, (on_set hl).2 (.inl rfl), .inr ?_⟩
  · rcases (on_set hl).1 hi with rfl | h1
    · exact .refl
    · exfalso
      unfold On at h1
      rw [List.getElem?_replicate] at h1
      split at h1 <;> simp at h1
  · cases hn : xs.length with
    | zero => omega
    | succ n => simp [List.replicate_succ, onN]
noncomputable def reachR (f : DFs) : RInts := if treeFault f = 0 then ⟨0, reachL f.inodes 0⟩ else ⟨treeFault f, []⟩
theorem reachR_f {f : DFs} (h : ¬ treeFault f = 0) : reachR f = ⟨treeFault f, []⟩ := if_neg h
theorem reachR_0 {f : DFs} (h : treeFault f = 0) : reachR f = ⟨0, reachL f.inodes 0⟩ := if_pos h
theorem treeG {f : DFs} (h : treeFault f = 0) : ∀ (j : Nat) x, f.inodes[j]? = some x → goodX f.inodes x := fun _ _ hx => good_of (treeOk h).2.2.2 hx
theorem treeL {f : DFs} (h : treeFault f = 0) : 0 < f.inodes.length := (rootOk (treeOk h).1).2.1
end Go.Proofs.Yticaddophhggoaa
/- What is proved: a whole file system's fault, the bytes of a file, in plain Lean. No condition. -/
namespace Go.Proofs.Yticaddophhggoaa
open Go Go.RowKit
set_option linter.unusedVariables false
set_option linter.unusedSimpArgs false
def minI (a b : Int) : Int := if a < b then a else b
theorem minI_spec (a b : Int) : minI a b ≤ a ∧ minI a b ≤ b ∧ (minI a b = a ∨ minI a b = b) := by unfold minI; split <;> omega
theorem minI_a {a b : Int} (h : a < b) : minI a b = a := if_pos h
theorem minI_b {a b : Int} (h : ¬ a < b) : minI a b = b := if_neg h
theorem minI_sw (a b : Int) : (if b < a then b else a) = minI a b := by unfold minI; split <;> split <;> omega
/-! ### how long data should be -/
def wantI (x : DInode) (L : List Int) : Nat → List Int
  | 0 => L
  | q + 1 => match x.blocks[q]? with | some b => (wantI x L q).set b.toNat (minI 8 (x.size - ((q * 8 : Nat) : Int))) | none => wantI x L q
def wantTo (xs : List DInode) : Nat → List Int
  | 0 => List.replicate 20 0
  | k + 1 => match xs[k]? with | some x => wantI x (wantTo xs k) x.blocks.length | none => wantTo xs k
theorem wantI_s {x : DInode} {L : List Int} {q : Nat} {b : Int} (h : x.blocks[q]? = some b) : (wantI x L q).set b.toNat (minI 8 (x.size - ((q * 8 : Nat) : Int))) = wantI x L (q + 1) := by simp only [wantI, h]
theorem wantTo_s {xs : List DInode} {k q : Nat} {x : DInode} (h : xs[k]? = some x) (hq : x.blocks.length ≤ q) (hq2 : q ≤ x.blocks.length) : wantI x (wantTo xs k) q = wantTo xs (k + 1) := by
  have : q = x.blocks.length := by omega
  subst this
  simp only [wantTo, h]
theorem wantI_len {x : DInode} {L : List Int} : ∀ q, (wantI x L q).length = L.length
  | 0 => rfl
  | q + 1 => by
    simp only [wantI]
    split
    · rw [List.length_set]; exact wantI_len q
    · exact wantI_len q
theorem wantTo_len {xs : List DInode} : ∀ k, (wantTo xs k).length = 20
  | 0 => by simp [wantTo]
  | k + 1 => by
    simp only [wantTo]
    split
    · rw [wantI_len]; exact wantTo_len k
    · exact wantTo_len k
theorem size_32 {x : DInode} (h : inodeFault x = 0) : 0 ≤ x.size ∧ x.size ≤ 32 := by
  unfold inodeFault at h
  split at h
  · split at h
    · exact absurd h (by decide)
    · split at h
      · unfold fileFault at h
        split at h
        · rename_i h1; exact h1.2
        · exact absurd h (by decide)
      · omega
  · exact absurd h (by decide)
theorem kind_02 {x : DInode} (h : inodeFault x = 0) : 0 ≤ x.kind ∧ x.kind ≤ 2 := by
  unfold inodeFault at h
  split at h
  · assumption
  · exact absurd h (by decide)
abbrev lens (f : DFs) : List Int := wantTo f.inodes f.inodes.length
def DataOk (f : DFs) : Prop := ∀ (j : Nat) (b : List UInt8), f.data[j]? = some b → (lens f)[j]? = some (b.length : Int)
noncomputable instance (f : DFs) : Decidable (DataOk f) := Classical.propDecidable _
theorem data_no {f : DFs} {k : Nat} {b : List UInt8} {n : Int} (hb : f.data[k]? = some b) (hn : (lens f)[k]? = some n) (h : ¬ (b.length : Int) = n) : ¬ DataOk f := fun hd => by
  have := hd k b hb
  rw [hn] at this
  exact h (Option.some.inj this).symm
theorem data_yes {f : DFs} {k : Nat} (hk : f.data.length ≤ k) (ha : ∀ (j : Nat) (b : List UInt8), j < k → f.data[j]? = some b → (lens f)[j]? = some (b.length : Int)) : DataOk f := fun j b hb => ha j b (by have := (List.getElem?_eq_some_iff.1 hb).1; omega) hb
theorem data_s {f : DFs} {k : Nat} {b : List UInt8} {n : Int} (ha : ∀ (j : Nat) (b : List UInt8), j < k → f.data[j]? = some b → (lens f)[j]? = some (b.length : Int)) (hb : f.data[k]? = some b) (hn : (lens f)[k]? = some n) (h : (b.length : Int) = n) : ∀ (j : Nat) (b : List UInt8), j < k + 1 → f.data[j]? = some b → (lens f)[j]? = some (b.length : Int) :=
  all_succ (q := fun j (b : List UInt8) => (lens f)[j]? = some (b.length : Int)) ha hb (by rw [hn, h])
/-! ### links -/
structure LinkOk (f : DFs) (j : Nat) (x : DInode) : Prop where
  file : x.kind = 1 → x.links = (linksOf f.inodes (j : Int) : Int)
  root : x.kind = 2 → j = 0 → (linksOf f.inodes (j : Int) : Int) = 0
  dir : x.kind = 2 → 0 < j → (linksOf f.inodes (j : Int) : Int) = 1
  way : ¬ x.kind = 0 → (j : Int) ∈ reachL f.inodes 0
def LinksOk (f : DFs) : Prop := ∀ (j : Nat) (x : DInode), f.inodes[j]? = some x → LinkOk f j x
noncomputable instance (f : DFs) : Decidable (LinksOk f) := Classical.propDecidable _
theorem links_yes {f : DFs} {k : Nat} (hk : f.inodes.length ≤ k) (ha : ∀ j x, j < k → f.inodes[j]? = some x → LinkOk f j x) : LinksOk f := fun j x hx => ha j x (by have := (List.getElem?_eq_some_iff.1 hx).1; omega) hx
noncomputable def linksF (f : DFs) : Int := if LinksOk f then 0 else 1
noncomputable def dataF (f : DFs) : Int := if DataOk f then 0 else 1
theorem linksF_1 {f : DFs} (h : ¬ LinksOk f) : linksF f = 1 := if_neg h
theorem linksF_0 {f : DFs} (h : LinksOk f) : linksF f = 0 := if_pos h
theorem dataF_1 {f : DFs} (h : ¬ DataOk f) : dataF f = 1 := if_neg h
theorem dataF_0 {f : DFs} (h : DataOk f) : dataF f = 0 := if_pos h
noncomputable def fsFault (f : DFs) : Int := if treeFault f = 0 then if LinksOk f ∧ DataOk f then 0 else 1 else treeFault f
theorem fsFault_t {f : DFs} (h : ¬ treeFault f = 0) : fsFault f = treeFault f := if_neg h
theorem fsFault_1 {f : DFs} (h : treeFault f = 0) (h2 : ¬ LinksOk f ∨ ¬ DataOk f) : fsFault f = 1 := by unfold fsFault; rw [if_pos h, if_neg (fun hh => h2.elim (fun k => k hh.1) (fun k => k hh.2))]
theorem fsFault_0 {f : DFs} (h : treeFault f = 0) (h2 : LinksOk f) (h3 : DataOk f) : fsFault f = 0 := by unfold fsFault; rw [if_pos h, if_pos ⟨h2, h3⟩]
theorem fsFault_l {f : DFs} (h : treeFault f = 0) (h2 : ¬ linksF f = 0) : fsFault f = linksF f := by
  by_cases hl : LinksOk f
  · exact absurd (linksF_0 hl) h2
  · rw [fsFault_1 h (.inl hl), linksF_1 hl]
theorem fsFault_d {f : DFs} (h : treeFault f = 0) (h2 : linksF f = 0) : fsFault f = dataF f := by
  by_cases hl : LinksOk f
  · by_cases hd : DataOk f
    · rw [fsFault_0 h hl hd, dataF_0 hd]
    · rw [fsFault_1 h (.inr hd), dataF_1 hd]
  · rw [linksF_1 hl] at h2; exact absurd h2 (by decide)
theorem fsTree {f : DFs} (h : fsFault f = 0) : treeFault f = 0 := by
  unfold fsFault at h
  split at h
  · assumption
  · contradiction
theorem fsOk {f : DFs} (h : fsFault f = 0) : treeFault f = 0 ∧ LinksOk f ∧ DataOk f := by
  refine ⟨fsTree h, ?_⟩
  apply Classical.byContradiction
  intro hn
  by_cases hl : LinksOk f
  · have := fsFault_1 (fsTree h) (.inr fun hd => hn ⟨hl, hd⟩); omega
  · have := fsFault_1 (fsTree h) (.inl hl); omega
/-! ### the bytes of a file -/
noncomputable def bytesCode (f : DFs) (a : Int) : Int := if fsFault f = 0 then if placeIn f.inodes.length a then if kindAt f.inodes a = 2 then 9 else if kindAt f.inodes a = 0 then 4 else 0 else 3 else fsFault f
theorem bytesCode_f {f : DFs} {a : Int} (h : ¬ fsFault f = 0) : bytesCode f a = fsFault f := if_neg h
theorem bytesCode_3 {f : DFs} {a : Int} (h : fsFault f = 0) (h2 : ¬ placeIn f.inodes.length a) : bytesCode f a = 3 := by unfold bytesCode; rw [if_pos h, if_neg h2]
theorem bytesCode_9 {f : DFs} {a : Int} (h : fsFault f = 0) (h2 : placeIn f.inodes.length a) (h3 : kindAt f.inodes a = 2) : bytesCode f a = 9 := by unfold bytesCode; rw [if_pos h, if_pos h2, if_pos h3]
theorem bytesCode_4 {f : DFs} {a : Int} (h : fsFault f = 0) (h2 : placeIn f.inodes.length a) (h3 : ¬ kindAt f.inodes a = 2) (h4 : kindAt f.inodes a = 0) : bytesCode f a = 4 := by unfold bytesCode; rw [if_pos h, if_pos h2, if_neg h3, if_pos h4]
theorem bytesCode_0 {f : DFs} {a : Int} (h : fsFault f = 0) (h2 : placeIn f.inodes.length a) (h3 : ¬ kindAt f.inodes a = 2) (h4 : ¬ kindAt f.inodes a = 0) : bytesCode f a = 0 := by unfold bytesCode; rw [if_pos h, if_pos h2, if_neg h3, if_neg h4]
theorem bytesOk {f : DFs} {a : Int} (h : bytesCode f a = 0) : fsFault f = 0 ∧ placeIn f.inodes.length a ∧ ¬ kindAt f.inodes a = 2 ∧ ¬ kindAt f.inodes a = 0 := by
  unfold bytesCode at h
  split at h
  · split at h
    · split at h
      · exact absurd h (by decide)
      · split at h
        · exact absurd h (by decide)
        · rename_i h1 h2 h3 h4; exact ⟨h1, h2, h3, h4⟩
    · exact absurd h (by decide)
  · contradiction
def blockD (data : List (List UInt8)) (b : Int) : List UInt8 := data.getD b.toNat []
def bytesTo (data : List (List UInt8)) (bs : List Int) (k : Nat) : List UInt8 := ((bs.take k).map (blockD data)).flatten
def blocksAt (xs : List DInode) (a : Int) : List Int := match xs[a.toNat]? with | some x => x.blocks | none => []
theorem blocks_at {xs : List DInode} {a : Int} {j : Nat} {x : DInode} (hx : xs[j]? = some x) (h : a = (j : Int)) : blocksAt xs a = x.blocks := by
  subst h
  unfold blocksAt
  rw [Int.toNat_natCast, hx]
def fileB (f : DFs) (a : Int) : List UInt8 := bytesTo f.data (blocksAt f.inodes a) (blocksAt f.inodes a).length
theorem bytesTo_s {data : List (List UInt8)} {bs : List Int} {k : Nat} {b : Int} {d : List UInt8} (hb : bs[k]? = some b) (hd : data[b.toNat]? = some d) : bytesTo data bs k ++ d = bytesTo data bs (k + 1) := by
  unfold bytesTo
  rw [← take_snoc hb, List.map_append, List.flatten_append]
  simp [blockD, hd]
theorem bytesTo_all {data : List (List UInt8)} {bs : List Int} {k : Nat} (h : bs.length ≤ k) : bytesTo data bs k = bytesTo data bs bs.length := by
  unfold bytesTo; rw [List.take_of_length_le h, List.take_length]
theorem bytesTo_len {data : List (List UInt8)} {bs : List Int} (k : Nat) (h4 : bs.length ≤ 4) (h8 : ∀ d, d ∈ data → d.length ≤ 8) : (bytesTo data bs k).length ≤ 32 := by
  unfold bytesTo
  have h1 : (bs.take k).length ≤ 4 := by rw [List.length_take]; omega
  have h2 : ∀ l : List Int, ((l.map (blockD data)).flatten).length ≤ l.length * 8 := by
    intro l
    induction l with
    | nil => simp
    | cons b l ih =>
      have : (blockD data b).length ≤ 8 := by
        unfold blockD
        rw [List.getD_eq_getElem?_getD]
        cases hd : data[b.toNat]? with
        | none => simp
        | some d => simpa using h8 d (List.mem_of_getElem? hd)
      simp only [List.map_cons, List.flatten_cons, List.length_append, List.length_cons]
      omega
  have := h2 (bs.take k)
  omega
theorem data_8 {f : DFs} (h : treeFault f = 0) : ∀ d, d ∈ f.data → d.length ≤ 8 := fun d hd => by
  have h1 := (treeOk h).2.1
  unfold bigD at h1
  rw [List.any_eq_false] at h1
  have := h1 d hd
  simp only [decide_eq_true_eq] at this
  omega
theorem data_20 {f : DFs} (h : treeFault f = 0) : f.data.length = 20 := (rootOk (treeOk h).1).2.2.2
noncomputable def bytesR (f : DFs) (a : Int) : RBytes := if bytesCode f a = 0 then ⟨0, fileB f a⟩ else ⟨bytesCode f a, []⟩
theorem bytesR_f {f : DFs} {a : Int} (h : ¬ bytesCode f a = 0) : bytesR f a = ⟨bytesCode f a, []⟩ := if_neg h
theorem bytesR_0 {f : DFs} {a : Int} (h : bytesCode f a = 0) : bytesR f a = ⟨0, fileB f a⟩ := if_pos h
end Go.Proofs.Yticaddophhggoaa
/- What is proved: arrays of whole numbers in memory and as values; the lesser of two numbers. No condition. -/
namespace Go.Proofs.Yticaddophhggoaa
open Go Go.RowKit
set_option linter.unusedVariables false
set_option linter.unusedSimpArgs false
section
variable {P : Program} {T : Slots} {Wd : World → Prop} {o : Oper} {x y : Operand} {t e : TypeId}
theorem q_indexAddrA {sz n j : Nat} {ad : Addr} {k : IntKind} {i : Int} (ho : o.op = .indexAddr t x y) (ht : P.underlying t = some (.array n e)) (he : (P.info? e).map (·.size) = some sz) (hx : Val T x (.pointer (some ad))) (hy : Val T y (.int k i)) (hi : i = j) (hj : j < n) :
    Quiet P o T Wd (.pointer (some (ad.add (j * sz)))) := fun a w ha _ => by
  subst hi
  obtain ⟨i0, h1, h2⟩ := Option.map_eq_some_iff.1 he
  simp only [execOp, ho, hx a ha, hy a ha]
  simp [Instr.indexAt, asIntOf, run_underlying ht, Instr.sureAddr, sizeOf, typeInfo, h1, h2, hj]
theorem q_indexArr {n j : Nat} {L : List Int} {k : IntKind} {i z : Int} (ho : o.op = .index t x y) (ht : P.underlying t = some (.array n e)) (he : (P.info? e).map (·.size) = some 1) (hg : AggIs P e false) (hx : Val T x (.agg (L.map (Value.int .i64)).toArray)) (hy : Val T y (.int k i)) (hi : i = j) (hj : L[j]? = some z) (hl : L.length = n) :
    Quiet P o T Wd (.int .i64 z) := fun a w ha _ => by
  subst hi
  obtain ⟨i0, h1, h2⟩ := Option.map_eq_some_iff.1 he
  obtain ⟨d, hd, hd2⟩ := hg.ex
  have hag := run_isAgg hd w
  rw [hd2] at hag
  have hlt : j < n := by rw [← hl]; exact (List.getElem?_eq_some_iff.1 hj).1
  have hp : (part e (L.map (Value.int .i64)).toArray (j * 1)).run P w = .ok (.int .i64 z) w := by
    unfold part
    rw [Sem.run_bind, hag]
    simp [hj]
  simp only [execOp, ho, hx a ha, hy a ha]
  simp [Instr.index, asIntOf, run_underlying ht, sizeOf, typeInfo, h1, h2, hlt]
  rw [Nat.mul_one] at hp
  simp [hp]
theorem q_min {ts : Array TypeId} {a b : Int} {k : IntKind} (ho : o.op = .call { callee := .builtin .min, args := #[x, y], argTypes := ts }) (hx : Val T x (.int k a)) (hy : Val T y (.int k b)) : Quiet P o T Wd (.int k (minI a b)) := fun ac w ha _ => by
  simp only [execOp, ho]
  simp [resolve, hx ac ha, hy ac ha, invoke, builtin, Builtin.min_, Builtin.min2, minI_sw]
end
theorem set1_at {v : Value} : ∀ {l : List Value} {n : Nat}, n < l.length → Set1 l n v (l.set n v)
  | _ :: _, 0, _ => .z
  | _ :: _, n + 1, h => .s (set1_at (by simpa using h))
  | [], _, h => by simp at h
theorem put_at {v : Value} {l : List Value} {n : Nat} (h : n < l.length) : PutN l n [v] (l.set n v) := .c (set1_at h) .n
theorem put_all : ∀ {pre cs fl : List Value}, fl.length = cs.length → PutN (pre ++ fl) pre.length cs (pre ++ cs)
  | pre, [], [], _ => by simpa using PutN.n
  | pre, c :: cs, f :: fl, h => by
    have h1 : Set1 (pre ++ f :: fl) pre.length c ((pre ++ [c]) ++ fl) := by
      have := set1_at (v := c) (l := pre ++ f :: fl) (n := pre.length) (by simp)
      simpa [List.set_append] using this
    have h2 := put_all (pre := pre ++ [c]) (cs := cs) (fl := fl) (by simpa using h)
    refine .c h1 ?_
    simpa using h2
  | _, [], _ :: _, h => by simp at h
  | _, _ :: _, [], h => by simp at h
theorem put_whole {cs fl : List Value} (h : fl.length = cs.length) : PutN fl 0 cs cs := by simpa using put_all (pre := []) h
theorem map_set (L : List Int) (j : Nat) (z : Int) : (L.map (Value.int .i64)).set j (.int .i64 z) = (L.set j z).map (Value.int .i64) := by rw [List.map_set]
theorem put_arr {L : List Int} {j : Nat} {z : Int} (h : j < L.length) : PutN (L.map (Value.int .i64)) (j * 1) [.int .i64 z] ((L.set j z).map (Value.int .i64)) := by
  rw [Nat.mul_one, ← map_set]
  exact put_at (by rwa [List.length_map])
theorem ones_map (L : List Int) : ∀ u, u ∈ L.map (Value.int .i64) → u.oneCell' = true := fun u hu => by
  obtain ⟨z, _, rfl⟩ := List.mem_map.1 hu
  rfl
end Go.Proofs.Yticaddophhggoaa
/- What is proved: what is found below a place within ten steps is what can be reached, in plain Lean. No condition. -/
namespace Go.Proofs.Yticaddophhggoaa
open Go Go.RowKit
set_option linter.unusedVariables false
set_option linter.unusedSimpArgs false
def wi (xs : List DInode) (a : Int) : Nat → Int → Bool
  | 0, b => decide (b = a)
  | n + 1, b => decide (b = a) || (entsAt xs b).any (fun e => wi xs a n e.ino)
theorem wi_eq {xs : List DInode} {a b : Int} {n : Nat} (h : b = a) : wi xs a n b = true := by
  cases n <;> simp [wi, h]
theorem wi_hit {xs : List DInode} {a b : Int} {n k : Nat} {e : DEnt} (hn : 0 < n) (he : (entsAt xs b)[k]? = some e) (h : wi xs a (n - 1) e.ino = true) : wi xs a n b = true := by
  obtain ⟨m, rfl⟩ : ∃ m, n = m + 1 := ⟨n - 1, by omega⟩
  simp only [wi, Bool.or_eq_true]
  exact .inr (List.any_eq_true.2 ⟨e, List.mem_of_getElem? he, by simpa using h⟩)
theorem wi_no {xs : List DInode} {a b : Int} {n : Nat} (h : ¬ b = a) (hk : n = 0 ∨ ∀ (j : Nat) (e : DEnt), (entsAt xs b)[j]? = some e → wi xs a (n - 1) e.ino = false) : wi xs a n b = false := by
  cases n with
  | zero => simp [wi, h]
  | succ m =>
    have hk' := hk.resolve_left (by omega)
    simp only [wi, Bool.or_eq_false_iff, decide_eq_false h, true_and]
    rw [List.any_eq_false]
    intro e he
    obtain ⟨j, hj⟩ := List.mem_iff_getElem?.1 he
    have := hk' j e hj
    simpa using this
theorem Reach.front {xs : List DInode} {b i : Nat} {x : DInode} {q : Nat} {e : DEnt} (hx : xs[b]? = some x) (he : x.ents[q]? = some e) (h : Reach xs e.ino.toNat i) : Reach xs b i := by
  generalize hr : e.ino.toNat = r at h
  induction h with
  | refl => subst hr; exact .step .refl hx he
  | step _ h1 h2 ih => exact .step ih h1 h2
theorem wi_reach {xs : List DInode} {a : Int} : ∀ {n : Nat} {b : Int}, wi xs a n b = true → Reach xs b.toNat a.toNat
  | 0, b, h => by simp [wi] at h; subst h; exact .refl
  | n + 1, b, h => by
    simp only [wi, Bool.or_eq_true, decide_eq_true_eq] at h
    rcases h with rfl | h
    · exact .refl
    · obtain ⟨e, he, h2⟩ := List.any_eq_true.1 h
      obtain ⟨q, hq⟩ := List.mem_iff_getElem?.1 he
      unfold entsAt at hq
      cases hx : xs[b.toNat]? with
      | none => rw [hx] at hq; simp at hq
      | some x => rw [hx] at hq; exact Reach.front hx hq (wi_reach h2)
theorem wi_snoc {xs : List DInode} {j i : Int} {x : DInode} {q : Nat} {e : DEnt} (hx : xs[j.toNat]? = some x) (he : x.ents[q]? = some e) (hi : e.ino = i) : ∀ {n : Nat} {b : Int}, wi xs j n b = true → wi xs i (n + 1) b = true
  | 0, b, h => by
    simp [wi] at h; subst h
    refine wi_hit (k := q) (e := e) (by omega) (by unfold entsAt; rw [hx]; exact he) (wi_eq hi)
  | n + 1, b, h => by
    simp only [wi, Bool.or_eq_true, decide_eq_true_eq] at h
    rcases h with rfl | h
    · exact wi_hit (k := q) (e := e) (by omega) (by unfold entsAt; rw [hx]; exact he) (wi_eq hi)
    · obtain ⟨g, hg, h2⟩ := List.any_eq_true.1 h
      obtain ⟨p, hp⟩ := List.mem_iff_getElem?.1 hg
      exact wi_hit (k := p) (e := g) (by omega) hp (wi_snoc hx he hi h2)
/-- What can be reached in so many steps. -/
def pk (xs : List DInode) (r : Nat) : Nat → Nat → Prop
  | 0, i => i = r
  | k + 1, i => pk xs r k i ∨ ∃ (j q : Nat) (x : DInode) (e : DEnt), pk xs r k j ∧ xs[j]? = some x ∧ x.ents[q]? = some e ∧ e.ino.toNat = i
theorem pk_le {xs : List DInode} {r i k m : Nat} (h : k ≤ m) (hp : pk xs r k i) : pk xs r m i := by
  induction m with
  | zero => obtain rfl : k = 0 := by omega
            exact hp
  | succ m ih =>
    by_cases hk : k = m + 1
    · subst hk; exact hp
    · exact .inl (ih (by omega))
theorem pk_reach {xs : List DInode} {r : Nat} : ∀ {k i : Nat}, pk xs r k i → Reach xs r i
  | 0, i, h => by obtain rfl : i = r := h; exact .refl
  | k + 1, i, h => by
    rcases h with h | ⟨j, q, x, e, h1, h2, h3, rfl⟩
    · exact pk_reach h
    · exact .step (pk_reach h1) h2 h3
noncomputable def pb (xs : List DInode) (r k : Nat) : List Bool := (List.range xs.length).map (fun i => @decide (pk xs r k i) (Classical.propDecidable _))
theorem pb_on {xs : List DInode} {r k i : Nat} : On (pb xs r k) i ↔ i < xs.length ∧ pk xs r k i := by
  unfold On pb
  rw [List.getElem?_map]
  by_cases h : i < xs.length
  · rw [List.getElem?_range h]
    simp [h]
  · rw [List.getElem?_eq_none (by simp; omega)]
    simp [h]
theorem on_pos {b : List Bool} {i : Nat} (h : On b i) : 1 ≤ onN b := List.count_pos_iff.2 (List.mem_of_getElem? h)
theorem pk_all {xs : List DInode} {r : Nat} (hl : xs.length ≤ 10) (hr : r < xs.length) (hlt : ∀ i, Reach xs r i → i < xs.length) : ∀ i, Reach xs r i → pk xs r 10 i := by
  have closed : ∀ j, (∀ i, pk xs r (j + 1) i → pk xs r j i) → ∀ i, Reach xs r i → pk xs r j i := fun j hc =>
    reach_sub (pk_le (Nat.zero_le j) rfl) fun i q x e hi hx he => hc _ (.inr ⟨i, q, x, e, hi, hx, he, rfl⟩)
  have key : ∀ k, (∃ j, j ≤ k ∧ ∀ i, pk xs r (j + 1) i → pk xs r j i) ∨ k + 1 ≤ onN (pb xs r k) := by
    intro k
    induction k with
    | zero => exact .inr (on_pos (pb_on.2 ⟨hr, rfl⟩))
    | succ k ih =>
      rcases ih with ⟨j, hj, hc⟩ | ih
      · exact .inl ⟨j, by omega, hc⟩
      · have hle : LeB (pb xs r k) (pb xs r (k + 1)) := fun i hi => pb_on.2 ⟨(pb_on.1 hi).1, .inl (pb_on.1 hi).2⟩
        rcases onN_lt (by simp [pb]) hle with he | hlt2
        · refine .inl ⟨k, by omega, fun i hi => ?_⟩
          have h1 : On (pb xs r (k + 1)) i := pb_on.2 ⟨hlt i (pk_reach hi), hi⟩
          rw [← he] at h1
          exact (pb_on.1 h1).2
        · exact .inr (by omega)
  rcases key 10 with ⟨j, hj, hc⟩ | h
  · exact fun i hi => pk_le hj (closed j hc i hi)
  · have h1 := onN_len (pb xs r 10)
    have h2 : (pb xs r 10).length = xs.length := by simp [pb]
    omega
theorem pk_wi {xs : List DInode} {b : Int} (hb : 0 ≤ b) (hn : ∀ (j q : Nat) (x : DInode) (e : DEnt), xs[j]? = some x → x.ents[q]? = some e → 0 ≤ e.ino) : ∀ {k i : Nat}, pk xs b.toNat k i → wi xs (i : Int) k b = true
  | 0, i, h => by obtain rfl : i = b.toNat := h; exact wi_eq (by omega)
  | k + 1, i, h => by
    rcases h with h | ⟨j, q, x, e, h1, h2, h3, rfl⟩
    · have h4 := pk_wi hb hn h
      clear h
      have : ∀ {k : Nat} {b : Int}, wi xs (i : Int) k b = true → wi xs (i : Int) (k + 1) b = true := by
        intro k
        induction k with
        | zero => intro b h; simp [wi] at h; exact wi_eq h
        | succ k ih =>
          intro b h
          simp only [wi, Bool.or_eq_true, decide_eq_true_eq] at h
          rcases h with h | h
          · exact wi_eq h
          · obtain ⟨g, hg, h2⟩ := List.any_eq_true.1 h
            obtain ⟨p, hp⟩ := List.mem_iff_getElem?.1 hg
            exact wi_hit (k := p) (e := g) (by omega) hp (ih h2)
      exact this h4
    · have h5 := hn j q x e h2 h3
      exact wi_snoc (j := (j : Int)) (by rw [Int.toNat_natCast]; exact h2) h3 (by omega) (pk_wi hb hn h1)
theorem wi_all {f : DFs} {a b : Int} (ht : treeFault f = 0) (ha : placeIn f.inodes.length a) (hb : placeIn f.inodes.length b) : wi f.inodes a 10 b = decide (a ∈ reachL f.inodes b.toNat) := by
  have hI := treeI ht
  have hlt := reach_lt (r := b.toNat) hI (treeG ht) (by have := hb.2; have := hb.1; omega)
  rw [Bool.eq_iff_iff, decide_eq_true_eq]
  constructor
  · intro h
    exact placesTo_mem.2 ⟨⟨ha.1, by have := ha.2; omega⟩, reachP_iff.2 (wi_reach h)⟩
  · intro h
    have h1 := reachP_iff.1 (placesTo_mem.1 h).2
    have h2 := pk_all (inodes_10 hI) (by have := hb.2; have := hb.1; omega) hlt _ h1
    have h3 := pk_wi hb.1 (fun j q x e hx he => (ents_ok (inodes_all hI x (List.mem_of_getElem? hx)) q e he).2.1) h2
    rwa [show ((a.toNat : Nat) : Int) = a by have := ha.1; omega] at h3
abbrev keptAt (f : DFs) (a : Int) : Prop := placeIn f.inodes.length a ∧ ¬ kindAt f.inodes a = 0
noncomputable def within (f : DFs) (a b : Int) : Bool := decide (fsFault f = 0 ∧ keptAt f a ∧ keptAt f b) && decide (a ∈ reachL f.inodes b.toNat)
theorem within_no {f : DFs} {a b : Int} (h : ¬ (fsFault f = 0 ∧ keptAt f a ∧ keptAt f b)) : within f a b = false := by unfold within; rw [decide_eq_false h]; rfl
theorem within_d {f : DFs} {a b : Int} (h : fsFault f = 0) (h1 : keptAt f a) (h2 : keptAt f b) : within f a b = decide (a ∈ reachL f.inodes b.toNat) := by unfold within; rw [decide_eq_true ⟨h, h1, h2⟩]; rfl
theorem within_w {f : DFs} {a b : Int} (h : fsFault f = 0) (h1 : keptAt f a) (h2 : keptAt f b) : within f a b = wi f.inodes a 10 b := by rw [within_d h h1 h2, wi_all (fsTree h) h1.1 h2.1]
end Go.Proofs.Yticaddophhggoaa
/- What is proved: nothing: weights and marks of the data types. No condition. -/
namespace Go.Proofs.Yticaddophhggoaa
set_option linter.unusedVariables false
def wt_DEnt (x : DEnt) : Nat := x.name.size + 0
def cnt_DEnt (x : DEnt) : Nat := 1 + 1
def mark_DEnt (n : Int) (x : DEnt) : DEnt := ⟨(mtext n), (n + 1)⟩
def vcnt_DEnt (x : DEnt) : Nat := 0 + 0
def vmark_DEnt (n : Int) (x : DEnt) : DEnt := ⟨x.name, x.ino⟩
def wt_DInode (x : DInode) : Nat := 0 + 0 + 0 + x.blocks.length + (x.ents.length + sumF wt_DEnt x.ents)
def cnt_DInode (x : DInode) : Nat := 1 + 1 + 1 + x.blocks.length + (sumF cnt_DEnt x.ents)
def mark_DInode (n : Int) (x : DInode) : DInode := ⟨n, (n + 1), (n + 1 + 1), ((markL (fun _ => 1) (fun m _ => m)) (n + 1 + 1 + 1) x.blocks), ((markL cnt_DEnt mark_DEnt) (n + 1 + 1 + 1 + (x.blocks.length : Int)) x.ents)⟩
def vcnt_DInode (x : DInode) : Nat := 0 + 0 + 0 + x.blocks.length + (sumF cnt_DEnt x.ents)
def vmark_DInode (n : Int) (x : DInode) : DInode := ⟨x.kind, x.links, x.size, ((markL (fun _ => 1) (fun m _ => m)) n x.blocks), ((markL cnt_DEnt mark_DEnt) (n + (x.blocks.length : Int)) x.ents)⟩
def wt_DFs (x : DFs) : Nat := (x.inodes.length + sumF wt_DInode x.inodes) + (x.data.length + sumF (fun x => x.length) x.data)
def cnt_DFs (x : DFs) : Nat := (sumF cnt_DInode x.inodes) + (sumF (fun x => x.length) x.data)
def mark_DFs (n : Int) (x : DFs) : DFs := ⟨((markL cnt_DInode mark_DInode) n x.inodes), ((markL (fun x => x.length) (markL (fun _ => 1) (fun m _ => mbyte m))) (n + ((sumF cnt_DInode x.inodes) : Int)) x.data)⟩
def vcnt_DFs (x : DFs) : Nat := (sumF cnt_DInode x.inodes) + (sumF (fun x => x.length) x.data)
def vmark_DFs (n : Int) (x : DFs) : DFs := ⟨((markL cnt_DInode mark_DInode) n x.inodes), ((markL (fun x => x.length) (markL (fun _ => 1) (fun m _ => mbyte m))) (n + ((sumF cnt_DInode x.inodes) : Int)) x.data)⟩
end Go.Proofs.Yticaddophhggoaa

/- What is proved: the library's contracts of Sort and Compact over rows of numbers, told of one's own slice. No condition. -/
import Derived.Test.YticaddophhggoaaGreatBase1
import Derived.Sort.Row
import Derived.Sort.Grow
import Derived.Lib.SplitLaws
import Derived.Lib.Join
namespace Go.Proofs.YticaddophhggoaaGreat
open Go Go.RowKit
open Go.Sort (putRow grow putCells mapBlock)
set_option linter.unusedVariables false
set_option linter.unusedSimpArgs false
theorem kint_cells {k : IntKind} {w : World} {S : Bs} : ∀ {zs : List Int} {css : List (List Value)}, css.length = zs.length → Star (seqA (kint k) zs css) w S → css = zs.map (fun z => [Value.int k z])
  | [], [], _, _ => rfl
  | z :: zs, c :: css, hl, h => by
    have h1 : (kint k).own w S z c := h.head (c := ownA (kint k) z c)
    rw [kint_cells (by simpa using hl) (h.drop (c := ownA (kint k) z c)), List.map_cons, h1.1]
  | [], _ :: _, hl, _ => by simp at hl
  | _ :: _, [], hl, _ => by simp at hl
theorem kint_seq {k : IntKind} {w : World} {S : Bs} : ∀ zs : List Int, Star (seqA (kint k) zs (zs.map (fun z => [Value.int k z]))) w S
  | [] => trivial
  | z :: zs => ⟨fun _ => False, S, ⟨rfl, trivial⟩, kint_seq zs, fun _ h => h.elim, fun _ h => h, fun _ h => h.elim⟩
theorem flat1 {k : IntKind} (zs : List Int) : (zs.map (fun z => [Value.int k z])).flatten = zs.map (Value.int k) := by
  induction zs with
  | nil => rfl
  | cons z zs ih => simp [ih]
/-- A row of numbers of one's own: its block, as the library's contracts ask. -/
theorem own_holds {e by_ : Nat} {w : World} {S : Bs} {zs : List Int} {v : Value} (h : (kslice e by_ (kint .i64)).own w S zs [v]) (hp : 0 < zs.length) :
    ∃ g c, v = .slice (some ⟨g, 0, none⟩) zs.length c ∧ zs.length ≤ c ∧ g < w.heap.size ∧ Go.Sort.Holds (Value.int .i64) w g 0 zs.toArray ∧ zs.length * by_ ≤ 140737488355328 ∧ c ≤ 9223372036854775807 ∧
      ∀ (zs' : List Int) (n : Nat) (os : Array Obj), zs'.length = zs.length → (kslice e by_ (kint .i64)).own (grow (putRow (Value.int .i64) (Sort.ahead w n) g 0 zs'.toArray) os) S zs' [v] ∧ Fr w S (grow (putRow (Value.int .i64) (Sort.ahead w n) g 0 zs'.toArray) os) := by
  rcases h with ⟨A, h1, rfl⟩ | ⟨g, c, css, h1, h2, h3, h4, h5, h6⟩
  · exact absurd hp (by simp)
  obtain rfl : v = .slice (some ⟨g, 0, none⟩) zs.length c := by simpa using h1
  obtain ⟨S1, S2, ⟨hg, cur, k1, k2, k3, k4⟩, hseq, a1, a2, a3⟩ := h6
  have hcss := kint_cells h5 hseq
  subst hcss
  rw [flat1] at k3 k4
  simp only [List.length_map] at k3 k4
  have hlt : g < w.heap.size := (Array.getElem?_eq_some_iff.1 k1).1
  have hcell : ∀ j, j < zs.length → cur[j]? = some (.int .i64 (zs[j]!)) := fun j hj => by
    have : (cur.toList.take zs.length)[j]? = (zs.map (Value.int .i64))[j]? := by rw [k4]
    rw [List.getElem?_take, if_pos hj, List.getElem?_map, List.getElem?_eq_getElem hj] at this
    rw [Array.getElem?_toList] at this
    rw [this, getElem!_pos zs j hj]
    rfl
  refine ⟨g, c, rfl, h2, hlt, fun j hj => ⟨?_, ?_⟩, h4, h3, fun zs' n os hl => ?_⟩
  · have hj' : j < zs.length := by simpa using hj
    rw [cell_of_row w g (0 + j) cur e (0, 0) k1, Nat.zero_add, hcell j hj']
    simp [getElem!_pos zs j hj', getElem!_pos zs.toArray j hj]
  · simp [World.frozen?, k1]
  · have hb : (grow (putRow (Value.int .i64) (Sort.ahead w n) g 0 zs'.toArray) os).heap[g]? = some (.cells (putCells (Value.int .i64) 0 zs'.toArray cur) e (0, 0)) := by
      simp only [grow, putRow, mapBlock, Sort.ahead]
      rw [Array.getElem?_append_left (by simpa using hlt), Array.getElem?_modify, if_pos rfl, k1]
      rfl
    have ho : ∀ b, b < w.heap.size → b ≠ g → (grow (putRow (Value.int .i64) (Sort.ahead w n) g 0 zs'.toArray) os).heap[b]? = w.heap[b]? := fun b hb hne => by
      simp only [grow, putRow, mapBlock, Sort.ahead]
      rw [Array.getElem?_append_left (by simpa using hb), Array.getElem?_modify, if_neg (fun e => hne e.symm)]
    have hsz : w.heap.size ≤ (grow (putRow (Value.int .i64) (Sort.ahead w n) g 0 zs'.toArray) os).heap.size := by simp [grow, putRow, mapBlock, Sort.ahead]
    have hfr : Fr w S (grow (putRow (Value.int .i64) (Sort.ahead w n) g 0 zs'.toArray) os) := ⟨rfl, rfl, rfl, hsz, fun b hb hn => ho b hb (fun e => hn (e ▸ a1 g hg))⟩
    refine ⟨.inr ⟨g, c, zs'.map (fun z => [Value.int .i64 z]), by rw [hl], by omega, h3, by rw [hl]; exact h4, by simp, ?_⟩, hfr⟩
    refine ⟨S1, fun _ => False, ⟨hg, _, hb, ?_, ?_, ?_⟩, kint_seq zs', a1, fun _ h => h.elim, fun _ _ h => h⟩
    · simpa [putCells] using k2
    · rw [flat1]
      simp only [putCells, Array.size_mapIdx, List.length_map]
      omega
    · rw [flat1]
      apply List.ext_getElem?
      intro j
      rw [List.getElem?_take, List.length_map]
      split
      · rename_i hj
        have hjc : j < cur.size := by omega
        rw [Array.getElem?_toList, putCells, Array.getElem?_mapIdx, Array.getElem?_eq_getElem hjc, Option.map_some, if_pos ⟨by omega, by simpa using hj⟩, List.getElem?_map, List.getElem?_eq_getElem hj, Option.map_some]
        simp [getElem!_pos zs'.toArray j (by simpa using hj)]
      · rw [List.getElem?_eq_none (by rw [List.length_map]; omega)]
theorem own_zero {e by_ : Nat} {w : World} {S : Bs} {zs : List Int} {v : Value} (h : (kslice e by_ (kint .i64)).own w S zs [v]) (hp : ¬ 0 < zs.length) : zs = [] ∧ ∃ A c, v = .slice A 0 c := by
  have h0 : zs = [] := List.length_eq_zero_iff.1 (by omega)
  subst h0
  obtain ⟨A, c, h1, _⟩ := own_form h
  exact ⟨rfl, A, c, by simpa using h1⟩
/-- Sorting. -/
theorem sort_con {P : Program} {f : FuncId} {e by_ : Nat} {w0 : World} {S0 : Bs} {zs : List Int} {v0 : Value}
    (h1 : ∀ (blk off cap : Nat) (zs : List Int) (w : World), Go.Sort.Holds (Value.int .i64) w blk off zs.toArray → blk < w.heap.size → zs.length < 4611686018427387904 → Calls P f #[.slice (some ⟨blk, off, none⟩) zs.length cap] w fun e w' => e = .returned (.tuple #[]) ∧ ∃ n os, w' = grow (putRow (Value.int .i64) (Sort.ahead w n) blk off (zs.mergeSort fun x y => decide (x ≤ y)).toArray) os)
    (h2 : ∀ (p : Option Addr) (cap : Nat) (w : World), Calls P f #[.slice p 0 cap] w fun e w' => e = .returned (.tuple #[]) ∧ w' = w) (h8 : 8 ≤ by_)
    (hs : Star [ownA (kslice e by_ (kint .i64)) zs [v0]] w0 S0) : Calls P f #[v0] w0 (TriPost w0 S0 (fun r l => r = .tuple #[] ∧ l = [ownA (kslice e by_ (kint .i64)) (sortI zs) [v0]])) := by
  have ho : (kslice e by_ (kint .i64)).own w0 S0 zs [v0] := hs.head (c := ownA (kslice e by_ (kint .i64)) zs [v0])
  by_cases hp : 0 < zs.length
  · obtain ⟨g, c, rfl, g1, g2, g3, g4, g5, g6⟩ := own_holds ho hp
    have hb : zs.length * 8 ≤ zs.length * by_ := Nat.mul_le_mul_left _ h8
    refine (h1 g 0 c zs w0 g3 g2 (by omega)).mono fun e' w' ⟨he, n, os, hw⟩ => ?_
    obtain ⟨k1, k2⟩ := g6 (sortI zs) n os (sortI_len zs)
    have hw' : w' = grow (putRow (Value.int .i64) (Sort.ahead w0 n) g 0 (sortI zs).toArray) os := hw
    subst hw'
    exact ⟨_, _, he, ⟨rfl, rfl⟩, S0, Star.one (c := ownA (kslice e by_ (kint .i64)) (sortI zs) _) k1, fun b hb => .inl hb, k2⟩
  · obtain ⟨rfl, A, c, rfl⟩ := own_zero ho hp
    refine (h2 A c w0).mono fun e' w' ⟨he, hw⟩ => ?_
    subst hw
    have e0 : sortI [] = [] := by simp [sortI]
    exact ⟨_, _, he, ⟨rfl, rfl⟩, S0, by rw [e0]; exact hs, fun b hb => .inl hb, Fr.refl _ _⟩
theorem grow_nil (w : World) : grow w #[] = w := by cases w; simp [grow]
/-- Compact: how many stay. -/
theorem compact_con {P : Program} {f : FuncId} {e by_ : Nat} {w0 : World} {S0 : Bs} {zs : List Int} {v0 : Value}
    (h1 : ∀ (blk off cap : Nat) (zs : List Int) (w : World), Go.Sort.Holds (Value.int .i64) w blk off zs.toArray → zs.length ≤ 9223372036854775807 → zs.length ≤ cap → Calls P f #[.slice (some ⟨blk, off, none⟩) zs.length cap] w fun e w' => e = .returned (.slice (some ⟨blk, off, none⟩) (Lib.compact zs).length cap) ∧ ∃ q, w' = putRow (Value.int .i64) (Sort.ahead w q) blk off (Lib.compact zs ++ List.replicate (zs.length - (Lib.compact zs).length) 0).toArray)
    (h2 : ∀ (a : Option Addr) (cap : Nat) (w : World), Calls P f #[.slice a 0 cap] w fun e w' => e = .returned (.slice a 0 cap) ∧ w' = w)
    (hs : Star [ownA (kslice e by_ (kint .i64)) zs [v0]] w0 S0) : Calls P f #[v0] w0 (TriPost w0 S0 (fun r l => ∃ z : Option Addr × Nat, r = .slice z.1 (Lib.compact zs).length z.2 ∧ l = [])) := by
  have ho : (kslice e by_ (kint .i64)).own w0 S0 zs [v0] := hs.head (c := ownA (kslice e by_ (kint .i64)) zs [v0])
  by_cases hp : 0 < zs.length
  · obtain ⟨g, c, rfl, g1, g2, g3, g4, g5, g6⟩ := own_holds ho hp
    refine (h1 g 0 c zs w0 g3 (by omega) g1).mono fun e' w' ⟨he, q, hw⟩ => ?_
    obtain ⟨k1, k2⟩ := g6 (Lib.compact zs ++ List.replicate (zs.length - (Lib.compact zs).length) 0) q #[] (by have := compact_len zs; simp; omega)
    have hw' : w' = grow (putRow (Value.int .i64) (Sort.ahead w0 q) g 0 (Lib.compact zs ++ List.replicate (zs.length - (Lib.compact zs).length) 0).toArray) #[] := by rw [hw, grow_nil]
    subst hw'
    exact ⟨_, _, he, ⟨(_, _), rfl, rfl⟩, S0, trivial, fun b hb => .inl hb, k2⟩
  · obtain ⟨rfl, A, c, rfl⟩ := own_zero ho hp
    refine (h2 A c w0).mono fun e' w' ⟨he, hw⟩ => ?_
    subst hw
    have e0 : (Lib.compact ([] : List Int)).length = 0 := rfl
    exact ⟨_, _, he, ⟨(A, c), by rw [e0], rfl⟩, S0, trivial, fun b hb => .inl hb, Fr.refl _ _⟩
theorem FJ.chEq {N : Nat} {w0 : World} {S0 : Bs} {F : Act → World → Prop} {T : Slots} {l l' : List Asn} {c c' : Asn} (h : Take l c l') (e : c = c') (k : FJ N w0 S0 F T (c' :: l')) : FJ N w0 S0 F T l := by subst e; exact FJ.take h k
/-! ### the head of a slice of one's own -/
theorem own_take {α : Type} {K : Kd α} {e by_ n c : Nat} {xs : List α} {A : Option Addr} (hn : n ≤ xs.length) (w : World) (S : Bs) (h : Star [ownA (kslice e by_ K) xs [.slice A xs.length c]] w S) : (ownA (kslice e by_ K) (xs.take n) [.slice A n c]).p w S := by
  have hl : (xs.take n).length = n := by rw [List.length_take]; omega
  rcases (show (kslice e by_ K).own w S xs [.slice A xs.length c] from h.head (c := ownA (kslice e by_ K) xs _)) with ⟨A', h1, rfl⟩ | ⟨g, c', css, h1, h2, h3, h4, h5, h6⟩
  · obtain rfl : n = 0 := by simpa using hn
    injection h1 with h1 _
    injection h1 with h1 h2 h3
    subst h3
    exact .inl ⟨A, rfl, rfl⟩
  · injection h1 with h1 _
    injection h1 with h1 _ h3'
    subst h1; subst h3'
    obtain ⟨S1, S2, ⟨hg, cur, k1, k2, k3, k4⟩, hseq, a1, a2, a3⟩ := h6
    have hlc := seq_len h5 hseq
    have hft := flatten_take hlc n
    refine .inr ⟨g, c, css.take n, by rw [hl], by omega, h3, ?_, by rw [List.length_take, List.length_take, h5], ?_⟩
    · rw [hl]; exact Nat.le_trans (Nat.mul_le_mul_right _ hn) h4
    · refine ⟨S1, S2, ⟨hg, cur, k1, k2, ?_, ?_⟩, ?_, a1, a2, a3⟩
      · rw [hft, List.length_take]; omega
      · rw [hft, List.length_take]
        have : cur.toList.take (min (n * K.sz) css.flatten.length) = (cur.toList.take css.flatten.length).take (n * K.sz) := by rw [List.take_take]
        rw [this, k4]
      · have : seqA K (xs.take n) (css.take n) = (seqA K xs css).take n := by simp [seqA, List.take_zipWith]
        rw [this]
        exact Star.sublist (List.take_sublist _ _) hseq
theorem own_take' {α : Type} {K : Kd α} {e by_ n c : Nat} {xs : List α} {A : Option Addr} (hn : n ≤ xs.length) (w : World) (S : Bs) (h : Star [ownA (kslice e by_ K) xs [.slice A xs.length c]] w S) : (ownA (kslice e by_ K) (xs.take n) [.slice A (xs.take n).length c]).p w S := by
  have := own_take hn w S h
  rwa [show (xs.take n).length = n by rw [List.length_take]; omega]
theorem WS.ocap {w0 : World} {S0 : Bs} {l l' : List Asn} {α : Type} {K : Kd α} {e by_ : Nat} {xs : List α} {A : Option Addr} {n c : Nat} (ht : Take l (ownA (kslice e by_ K) xs [.slice A n c]) l') : ∀ w, WS w0 S0 l w → n = xs.length ∧ n ≤ c ∧ c ≤ 9223372036854775807 ∧ n * by_ ≤ 140737488355328 := fun w hw => by
  obtain ⟨A', c', h, h1, h2, h3⟩ := WS.oform ht w hw
  injection h with _ h4 h5
  subst h4; subst h5
  exact ⟨rfl, h1, h2, h3⟩
section
variable {P : Program} {T : Slots} {Wd : World → Prop} {o : Oper}
theorem q_sliceTake {x : Operand} {t e : TypeId} {sz b n c : Nat} {z : Operand} {k : IntKind} {A : Option Addr} (ho : o.op = .slice t x none (some z) none) (ht : P.underlying t = some (.slice e)) (he : (P.info? e).map (·.size) = some sz) (hx : Val T x (.slice A n c)) (hz : Val T z (.int k (b : Int))) (h : b ≤ c) : Quiet P o T Wd (.slice A b c) := by
  have := q_slice (a := 0) (b := b) (Wd := Wd) ho ht he hx (.inl ⟨rfl, rfl⟩) (.inr ⟨_, _, rfl, hz⟩) (by omega) h
  have e1 : (if c = 0 then A else A.map (·.add (0 * sz))) = A := by
    split
    · rfl
    · cases A with
      | none => rfl
      | some a => simp [Addr.add]
  rw [e1] at this
  simpa using this
end
end Go.Proofs.YticaddophhggoaaGreat
/- What is proved: what can be reached in a tree, by a stack and by rounds, in plain Lean. No condition. -/
namespace Go.Proofs.YticaddophhggoaaGreat
open Go Go.RowKit
set_option linter.unusedVariables false
set_option linter.unusedSimpArgs false
inductive Reach (xs : List DInode) (r : Nat) : Nat → Prop
  | refl : Reach xs r r
  | step {i q : Nat} {x : DInode} {e : DEnt} : Reach xs r i → xs[i]? = some x → x.ents[q]? = some e → Reach xs r e.ino.toNat
noncomputable def reachP (xs : List DInode) (r : Nat) : Int → Bool := fun a => @decide (Reach xs r a.toNat) (Classical.propDecidable _)
noncomputable def reachL (xs : List DInode) (r : Nat) : List Int := placesTo (reachP xs r) xs.length
theorem reachP_iff {xs : List DInode} {r : Nat} {a : Int} : reachP xs r a = true ↔ Reach xs r a.toNat := by
  unfold reachP
  exact @decide_eq_true_iff _ (Classical.propDecidable _)
/-- What is seen: a list of truths. -/
abbrev On (b : List Bool) (i : Nat) : Prop := b[i]? = some true
theorem on_set {b : List Bool} {j i : Nat} (hj : j < b.length) : On (b.set j true) i ↔ (i = j ∨ On b i) := by
  unfold On
  rw [List.getElem?_set]
  by_cases h : j = i
  · subst h; simp [hj]
  · rw [if_neg h]
    constructor
    · exact .inr
    · rintro (rfl | h2)
      · exact absurd rfl h
      · exact h2
theorem reach_sub {xs : List DInode} {r : Nat} {S : Nat → Prop} (h0 : S r) (hc : ∀ (i q : Nat) x e, S i → xs[i]? = some x → x.ents[q]? = some e → S e.ino.toNat) : ∀ i, Reach xs r i → S i := fun i h => by
  induction h with
  | refl => exact h0
  | step _ hx he ih => exact hc _ _ _ _ ih hx he
theorem reach_lt {xs : List DInode} {r : Nat} (hI : inodesFault xs = 0) (hG : ∀ (j : Nat) x, xs[j]? = some x → goodX xs x) (hr : r < xs.length) : ∀ i, Reach xs r i → i < xs.length :=
  reach_sub hr fun i q x e _ hx he => by
    have h1 := ent_in (hG i x hx q e he)
    have h2 := ents_ok (inodes_all hI x (List.mem_of_getElem? hx)) q e he
    omega
/-! ### the stack -/
structure Dfs (xs : List DInode) (r : Nat) (b : List Bool) (op : List Int) : Prop where
  len : b.length = xs.length
  snd : ∀ i, On b i → Reach xs r i
  opn : ∀ a, a ∈ op → (0 ≤ a ∧ a < (xs.length : Int)) ∧ Reach xs r a.toNat
  top : On b r ∨ (r : Int) ∈ op
  cls : ∀ (i q : Nat) x e, On b i → xs[i]? = some x → x.ents[q]? = some e → On b e.ino.toNat ∨ e.ino ∈ op
theorem dfs_init {xs : List DInode} {r : Nat} (hr : r < xs.length) : Dfs xs r (List.replicate xs.length false) [(r : Int)] where
  len := by simp
  snd i h := by
    exfalso
    unfold On at h
    rw [List.getElem?_replicate] at h
    split at h <;> simp at h
  opn a ha := by
    obtain rfl := List.mem_singleton.1 ha
    exact ⟨by omega, by rw [Int.toNat_natCast]; exact .refl⟩
  top := .inr (List.mem_singleton.2 rfl)
  cls i q x e h := by
    exfalso
    unfold On at h
    rw [List.getElem?_replicate] at h
    split at h <;> simp at h
theorem take_last {α : Type} {op : List α} {a : α} (ha : op[op.length - 1]? = some a) : op = op.take (op.length - 1) ++ [a] := by
  have := take_snoc ha
  rw [this, List.take_of_length_le]
  have := (List.getElem?_eq_some_iff.1 ha).1
  omega
theorem dfs_seen {xs : List DInode} {r : Nat} {b : List Bool} {op : List Int} {a : Int} (h : Dfs xs r b op) (ha : op[op.length - 1]? = some a) (hs : On b a.toNat) : Dfs xs r b (op.take (op.length - 1)) := by
  have he := take_last ha
  have hm : ∀ c, c ∈ op → c = a ∨ c ∈ op.take (op.length - 1) := fun c hc => by
    rw [he] at hc
    rcases List.mem_append.1 hc with h1 | h1
    · exact .inr h1
    · exact .inl (List.mem_singleton.1 h1)
  refine ⟨h.len, h.snd, fun c hc => h.opn c (List.mem_of_mem_take hc), ?_, fun i q x e hi hx hq => ?_⟩
  · rcases h.top with h1 | h1
    · exact .inl h1
    · rcases hm _ h1 with h2 | h2
      · exact .inl (by rw [← h2, Int.toNat_natCast] at hs; exact hs)
      · exact .inr h2
  · rcases h.cls i q x e hi hx hq with h1 | h1
    · exact .inl h1
    · rcases hm _ h1 with h2 | h2
      · exact .inl (by rw [h2]; exact hs)
      · exact .inr h2
def inosTo (es : List DEnt) (k : Nat) : List Int := (es.take k).map (·.ino)
theorem inosTo_s {op : List Int} {es : List DEnt} {k : Nat} {e : DEnt} (h : es[k]? = some e) : (op ++ inosTo es k) ++ [e.ino] = op ++ inosTo es (k + 1) := by
  unfold inosTo
  rw [← take_snoc h, List.map_append, List.append_assoc]
  rfl
theorem inosTo_0 (op : List Int) (es : List DEnt) : op = op ++ inosTo es 0 := by simp [inosTo]
theorem inosTo_len {es : List DEnt} {k : Nat} : (inosTo es k).length ≤ es.length := by
  unfold inosTo; rw [List.length_map, List.length_take]; omega
theorem dfs_new {xs : List DInode} {r : Nat} {b : List Bool} {op : List Int} {a : Int} {x : DInode} {k : Nat} (hI : inodesFault xs = 0) (hG : ∀ (j : Nat) x, xs[j]? = some x → goodX xs x) (h : Dfs xs r b op) (ha : op[op.length - 1]? = some a) (hx : xs[a.toNat]? = some x) (hk : x.ents.length ≤ k) :
    Dfs xs r (b.set a.toNat true) (op.take (op.length - 1) ++ inosTo x.ents k) := by
  have he := take_last ha
  have hmem : a ∈ op := by rw [he]; exact List.mem_append.2 (.inr (List.mem_singleton.2 rfl))
  have hop := h.opn a hmem
  have hlt : a.toNat < b.length := by rw [h.len]; omega
  have hm : ∀ c, c ∈ op → c = a ∨ c ∈ op.take (op.length - 1) := fun c hc => by
    rw [he] at hc
    rcases List.mem_append.1 hc with h1 | h1
    · exact .inr h1
    · exact .inl (List.mem_singleton.1 h1)
  have hin : inosTo x.ents k = x.ents.map (·.ino) := by unfold inosTo; rw [List.take_of_length_le hk]
  refine ⟨by rw [List.length_set]; exact h.len, fun i hi => ?_, fun c hc => ?_, ?_, fun i q y e hi hy hq => ?_⟩
  · rcases (on_set hlt).1 hi with rfl | h1
    · exact hop.2
    · exact h.snd i h1
  · rcases List.mem_append.1 hc with h1 | h1
    · exact h.opn c (List.mem_of_mem_take h1)
    · rw [hin] at h1
      obtain ⟨e, hem, rfl⟩ := List.mem_map.1 h1
      obtain ⟨q, hq⟩ := List.mem_iff_getElem?.1 hem
      have h2 := ent_in (hG _ x hx q e hq)
      have h3 := ents_ok (inodes_all hI x (List.mem_of_getElem? hx)) q e hq
      exact ⟨⟨h3.2.1, h2⟩, .step hop.2 hx hq⟩
  · rcases h.top with h1 | h1
    · exact .inl ((on_set hlt).2 (.inr h1))
    · rcases hm _ h1 with h2 | h2
      · exact .inl ((on_set hlt).2 (.inl (by rw [← h2, Int.toNat_natCast])))
      · exact .inr (List.mem_append.2 (.inl h2))
  · rcases (on_set hlt).1 hi with rfl | h1
    · rw [hx] at hy
      obtain rfl := Option.some.inj hy
      exact .inr (List.mem_append.2 (.inr (by rw [hin]; exact List.mem_map.2 ⟨e, List.mem_of_getElem? hq, rfl⟩)))
    · rcases h.cls i q y e h1 hy hq with h2 | h2
      · exact .inl ((on_set hlt).2 (.inr h2))
      · rcases hm _ h2 with h3 | h3
        · exact .inl ((on_set hlt).2 (.inl (by rw [h3])))
        · exact .inr (List.mem_append.2 (.inl h3))
theorem dfs_end {xs : List DInode} {r : Nat} {b : List Bool} {op : List Int} (h : Dfs xs r b op) (h0 : op.length = 0) : ∀ i, On b i ↔ Reach xs r i := by
  obtain rfl := List.length_eq_zero_iff.1 h0
  have hr : On b r := h.top.elim id (fun h => by cases h)
  exact fun i => ⟨h.snd i, reach_sub hr (fun i q x e hi hx hq => (h.cls i q x e hi hx hq).elim id (fun h => by cases h)) i⟩
/-- How many are not seen yet. -/
def offN (b : List Bool) : Nat := b.count false
theorem offN_set : ∀ {b : List Bool} {j : Nat}, b[j]? = some false → offN (b.set j true) + 1 = offN b
  | [], j, h => by simp at h
  | c :: b, 0, h => by
    simp at h
    subst h
    simp [offN]
  | c :: b, j + 1, h => by
    have ih := offN_set (b := b) (j := j) (by simpa using h)
    unfold offN at ih ⊢
    simp only [List.set_cons_succ, List.count_cons]
    omega
theorem not_on {b : List Bool} {j : Nat} (hj : j < b.length) (h : ¬ On b j) : b[j]? = some false := by
  unfold On at h
  rw [List.getElem?_eq_getElem hj] at h ⊢
  cases hb : b[j]
  · rfl
  · exact absurd (by rw [hb]) h
/-! ### the list of what is seen -/
abbrev onP (b : List Bool) : Int → Bool := fun a => b.getD a.toNat false
theorem onP_of {b : List Bool} {k : Nat} {c : Bool} (h : b[k]? = some c) : onP b (k : Int) = c := by
  unfold onP
  rw [Int.toNat_natCast, List.getD_eq_getElem?_getD, h]
  rfl
theorem seen_reach {xs : List DInode} {r : Nat} {b : List Bool} {k : Nat} (h : ∀ i, On b i ↔ Reach xs r i) (hl : b.length = xs.length) (hk : k = b.length) : placesTo (onP b) k = reachL xs r := by
  unfold reachL
  rw [hk, hl]
  refine placesTo_congr fun a h1 h2 => ?_
  rw [Bool.eq_iff_iff, reachP_iff, ← h]
  unfold onP On
  rw [List.getD_eq_getElem?_getD]
  cases hb : b[a.toNat]? with
  | none => simp
  | some c => simp
/-! ### the rounds -/
abbrev LeB (b c : List Bool) : Prop := ∀ i, On b i → On c i
def onN (b : List Bool) : Nat := b.count true
theorem onN_len (b : List Bool) : onN b ≤ b.length := List.count_le_length
theorem onN_lt : ∀ {b c : List Bool}, b.length = c.length → LeB b c → b = c ∨ onN b < onN c
  | [], [], _, _ => .inl rfl
  | x :: b, y :: c, hl, hle => by
    have h1 : LeB b c := fun i hi => by have := hle (i + 1) (by simpa [On] using hi); simpa [On] using this
    have h0 : x = true → y = true := fun hx => by have := hle 0 (by simp [On, hx]); simpa [On] using this
    rcases onN_lt (b := b) (c := c) (by simpa using hl) h1 with rfl | h2
    · cases x <;> cases y <;> simp [onN] at h0 ⊢
    · right
      unfold onN at h2 ⊢
      simp only [List.count_cons]
      cases x <;> cases y <;> simp at h0 ⊢ <;> omega
  | [], _ :: _, hl, _ => by simp at hl
  | _ :: _, [], hl, _ => by simp at hl
abbrev Clo (xs : List DInode) (b : List Bool) : Prop := ∀ (i q : Nat) x e, On b i → xs[i]? = some x → x.ents[q]? = some e → On b e.ino.toNat
/-- At a round's head. -/
structure Rnd (xs : List DInode) (k : Nat) (b : List Bool) : Prop where
  len : b.length = xs.length
  snd : ∀ i, On b i → Reach xs 0 i
  top : On b 0
  prog : Clo xs b ∨ k + 1 ≤ onN b
/-- Within a round that began at b0: the places below i are done. -/
structure Mid (xs : List DInode) (b0 : List Bool) (i : Nat) (b : List Bool) : Prop where
  len : b.length = xs.length
  snd : ∀ i, On b i → Reach xs 0 i
  le : LeB b0 b
  don : ∀ (j q : Nat) x e, j < i → On b0 j → xs[j]? = some x → x.ents[q]? = some e → On b e.ino.toNat
theorem mid_init {xs : List DInode} {k : Nat} {b : List Bool} (h : Rnd xs k b) : Mid xs b 0 b := ⟨h.len, h.snd, fun _ h => h, fun j _ _ _ hj => absurd hj (Nat.not_lt_zero j)⟩
theorem rnd_next {xs : List DInode} {k i : Nat} {b0 b : List Bool} (h0 : Rnd xs k b0) (h : Mid xs b0 i b) (hi : xs.length ≤ i) : Rnd xs (k + 1) b := by
  refine ⟨h.len, h.snd, h.le 0 h0.top, ?_⟩
  have hd : ∀ (j q : Nat) x e, On b0 j → xs[j]? = some x → x.ents[q]? = some e → On b e.ino.toNat := fun j q x e hj hx hq => h.don j q x e (by have := (List.getElem?_eq_some_iff.1 hx).1; omega) hj hx hq
  rcases onN_lt (h0.len.trans h.len.symm) h.le with rfl | hlt
  · exact .inl hd
  · rcases h0.prog with hc | hc
    · exfalso
      have : b0 = b := by
        have hle : LeB b b0 := fun j hj => reach_sub h0.top hc j (h.snd j hj)
        rcases onN_lt (h.len.trans h0.len.symm) hle with h1 | h1
        · exact h1.symm
        · omega
      subst this
      omega
    · exact .inr (by omega)
theorem rnd_end {xs : List DInode} {k : Nat} {b : List Bool} (h : Rnd xs k b) (hk : xs.length ≤ k) : ∀ i, On b i ↔ Reach xs 0 i := by
  have hc : Clo xs b := h.prog.elim id (fun h1 => by have := onN_len b; have := h.len; omega)
  exact fun i => ⟨h.snd i, reach_sub h.top hc i⟩
/-- Within place i: the entries below q are done. -/
structure Inn (xs : List DInode) (b0 : List Bool) (i : Nat) (x : DInode) (q : Nat) (b : List Bool) : Prop where
  mid : Mid xs b0 i b
  don : ∀ (j : Nat) e, j < q → x.ents[j]? = some e → On b e.ino.toNat
theorem inn_init {xs : List DInode} {b0 b : List Bool} {i : Nat} {x : DInode} (h : Mid xs b0 i b) : Inn xs b0 i x 0 b := ⟨h, fun j _ hj => absurd hj (Nat.not_lt_zero j)⟩
theorem inn_next {xs : List DInode} {b0 b : List Bool} {i q : Nat} {x : DInode} {e : DEnt} (h : Inn xs b0 i x q b) (hx : xs[i]? = some x) (he : x.ents[q]? = some e) (hb : On b i) (hl : e.ino.toNat < b.length) : Inn xs b0 i x (q + 1) (b.set e.ino.toNat true) := by
  have up : ∀ j, On b j → On (b.set e.ino.toNat true) j := fun j hj => (on_set hl).2 (.inr hj)
  refine ⟨⟨by rw [List.length_set]; exact h.mid.len, fun j hj => ?_, fun j hj => up j (h.mid.le j hj), fun j p y d hj hb0 hy hd => up _ (h.mid.don j p y d hj hb0 hy hd)⟩, fun j d hj hd => ?_⟩
  · rcases (on_set hl).1 hj with rfl | h1
    · exact .step (h.mid.snd i hb) hx he
    · exact h.mid.snd j h1
  · by_cases hq : j < q
    · exact up _ (h.don j d hq hd)
    · obtain rfl : j = q := by omega
      rw [he] at hd
      obtain rfl := Option.some.inj hd
      exact (on_set hl).2 (.inl rfl)
theorem mid_next {xs : List DInode} {b0 b : List Bool} {i q : Nat} {x : DInode} (h : Inn xs b0 i x q b) (hx : xs[i]? = some x) (hq : On b i → x.ents.length ≤ q) : Mid xs b0 (i + 1) b := by
  refine ⟨h.mid.len, h.mid.snd, h.mid.le, fun j p y d hj hb0 hy hd => ?_⟩
  by_cases hji : j < i
  · exact h.mid.don j p y d hji hb0 hy hd
  · obtain rfl : j = i := by omega
    rw [hx] at hy
    obtain rfl := Option.some.inj hy
    have := hq (h.mid.le _ hb0)
    exact h.don p d (by have := (List.getElem?_eq_some_iff.1 hd).1; omega) hd
theorem rnd_init {xs : List DInode} (h0 : 0 < xs.length) : Rnd xs 0 ((List.replicate xs.length false).set 0 true) := by
  have hl : 0 < (List.replicate xs.length false).length := by simpa using h0
  refine ⟨by simp, fun i hi => ?_, (on_set hl).2 (.inl rfl), .inr ?_⟩
  · rcases (on_set hl).1 hi with rfl | h1
    · exact .refl
    · exfalso
      unfold On at h1
      rw [List.getElem?_replicate] at h1
      split at h1 <;> simp at h1
  · cases hn : xs.length with
    | zero => omega
    | succ n => simp [List.replicate_succ, onN]
noncomputable def reachR (f : DFs) : RInts := if treeFault f = 0 then ⟨0, reachL f.inodes 0⟩ else ⟨treeFault f, []⟩
theorem reachR_f {f : DFs} (h : ¬ treeFault f = 0) : reachR f = ⟨treeFault f, []⟩ := if_neg h
theorem reachR_0 {f : DFs} (h : treeFault f = 0) : reachR f = ⟨0, reachL f.inodes 0⟩ := if_pos h
theorem treeG {f : DFs} (h : treeFault f = 0) : ∀ (j : Nat) x, f.inodes[j]? = some x → goodX f.inodes x := fun _ _ hx => good_of (treeOk h).2.2.2 hx
theorem treeL {f : DFs} (h : treeFault f = 0) : 0 < f.inodes.length := (rootOk (treeOk h).1).2.1
end Go.Proofs.YticaddophhggoaaGreat
/- What is proved: a whole file system's fault, the bytes of a file, in plain Lean. No condition. -/
namespace Go.Proofs.YticaddophhggoaaGreat
open Go Go.RowKit
set_option linter.unusedVariables false
set_option linter.unusedSimpArgs false
def minI (a b : Int) : Int := if a < b then a else b
theorem minI_spec (a b : Int) : minI a b ≤ a ∧ minI a b ≤ b ∧ (minI a b = a ∨ minI a b = b) := by unfold minI; split <;> omega
theorem minI_a {a b : Int} (h : a < b) : minI a b = a := if_pos h
theorem minI_b {a b : Int} (h : ¬ a < b) : minI a b = b := if_neg h
theorem minI_sw (a b : Int) : (if b < a then b else a) = minI a b := by unfold minI; split <;> split <;> omega
/-! ### how long data should be -/
def wantI (x : DInode) (L : List Int) : Nat → List Int
  | 0 => L
  | q + 1 => match x.blocks[q]? with | some b => (wantI x L q).set b.toNat (minI 8 (x.size - ((q * 8 : Nat) : Int))) | none => wantI x L q
def wantTo (xs : List DInode) : Nat → List Int
  | 0 => List.replicate 20 0
  | k + 1 => match xs[k]? with | some x => wantI x (wantTo xs k) x.blocks.length | none => wantTo xs k
theorem wantI_s {x : DInode} {L : List Int} {q : Nat} {b : Int} (h : x.blocks[q]? = some b) : (wantI x L q).set b.toNat (minI 8 (x.size - ((q * 8 : Nat) : Int))) = wantI x L (q + 1) := by simp only [wantI, h]
theorem wantTo_s {xs : List DInode} {k q : Nat} {x : DInode} (h : xs[k]? = some x) (hq : x.blocks.length ≤ q) (hq2 : q ≤ x.blocks.length) : wantI x (wantTo xs k) q = wantTo xs (k + 1) := by
  have : q = x.blocks.length := by omega
  subst this
  simp only [wantTo, h]
theorem wantI_len {x : DInode} {L : List Int} : ∀ q, (wantI x L q).length = L.length
  | 0 => rfl
  | q + 1 => by
    simp only [wantI]
    split
    · rw [List.length_set]; exact wantI_len q
    · exact wantI_len q
theorem wantTo_len {xs : List DInode} : ∀ k, (wantTo xs k).length = 20
  | 0 => by simp [wantTo]
  | k + 1 => by
    simp only [wantTo]
    split
    · rw [wantI_len]; exact wantTo_len k
    · exact wantTo_len k
theorem size_32 {x : DInode} (h : inodeFault x = 0) : 0 ≤ x.size ∧ x.size ≤ 32 := by
  unfold inodeFault at h
  split at h
  · split at h
    · exact absurd h (by decide)
    · split at h
      · unfold fileFault at h
        split at h
        · rename_i h1; exact h1.2
        · exact absurd h (by decide)
      · omega
  · exact absurd h (by decide)
theorem kind_02 {x : DInode} (h : inodeFault x = 0) : 0 ≤ x.kind ∧ x.kind ≤ 2 := by
  unfold inodeFault at h
  split at h
  · assumption
  · exact absurd h (by decide)
abbrev lens (f : DFs) : List Int := wantTo f.inodes f.inodes.length
def DataOk (f : DFs) : Prop := ∀ (j : Nat) (b : List UInt8), f.data[j]? = some b → (lens f)[j]? = some (b.length : Int)
noncomputable instance (f : DFs) : Decidable (DataOk f) := Classical.propDecidable _
theorem data_no {f : DFs} {k : Nat} {b : List UInt8} {n : Int} (hb : f.data[k]? = some b) (hn : (lens f)[k]? = some n) (h : ¬ (b.length : Int) = n) : ¬ DataOk f := fun hd => by
  have := hd k b hb
  rw [hn] at this
  exact h (Option.some.inj this).symm
theorem data_yes {f : DFs} {k : Nat} (hk : f.data.length ≤ k) (ha : ∀ (j : Nat) (b : List UInt8), j < k → f.data[j]? = some b → (lens f)[j]? = some (b.length : Int)) : DataOk f := fun j b hb => ha j b (by have := (List.getElem?_eq_some_iff.1 hb).1; omega) hb
theorem data_s {f : DFs} {k : Nat} {b : List UInt8} {n : Int} (ha : ∀ (j : Nat) (b : List UInt8), j < k → f.data[j]? = some b → (lens f)[j]? = some (b.length : Int)) (hb : f.data[k]? = some b) (hn : (lens f)[k]? = some n) (h : (b.length : Int) = n) : ∀ (j : Nat) (b : List UInt8), j < k + 1 → f.data[j]? = some b → (lens f)[j]? = some (b.length : Int) :=
  all_succ (q := fun j (b : List UInt8) => (lens f)[j]? = some (b.length : Int)) ha hb (by rw [hn, h])
/-! ### links -/
structure LinkOk (f : DFs) (j : Nat) (x : DInode) : Prop where
  file : x.kind = 1 → x.links = (linksOf f.inodes (j : Int) : Int)
  root : x.kind = 2 → j = 0 → (linksOf f.inodes (j : Int) : Int) = 0
  dir : x.kind = 2 → 0 < j → (linksOf f.inodes (j : Int) : Int) = 1
  way : ¬ x.kind = 0 → (j : Int) ∈ reachL f.inodes 0
def LinksOk (f : DFs) : Prop := ∀ (j : Nat) (x : DInode), f.inodes[j]? = some x → LinkOk f j x
noncomputable instance (f : DFs) : Decidable (LinksOk f) := Classical.propDecidable _
theorem links_yes {f : DFs} {k : Nat} (hk : f.inodes.length ≤ k) (ha : ∀ j x, j < k → f.inodes[j]? = some x → LinkOk f j x) : LinksOk f := fun j x hx => ha j x (by have := (List.getElem?_eq_some_iff.1 hx).1; omega) hx
noncomputable def linksF (f : DFs) : Int := if LinksOk f then 0 else 1
noncomputable def dataF (f : DFs) : Int := if DataOk f then 0 else 1
theorem linksF_1 {f : DFs} (h : ¬ LinksOk f) : linksF f = 1 := if_neg h
theorem linksF_0 {f : DFs} (h : LinksOk f) : linksF f = 0 := if_pos h
theorem dataF_1 {f : DFs} (h : ¬ DataOk f) : dataF f = 1 := if_neg h
theorem dataF_0 {f : DFs} (h : DataOk f) : dataF f = 0 := if_pos h
noncomputable def fsFault (f : DFs) : Int := if treeFault f = 0 then if LinksOk f ∧ DataOk f then 0 else 1 else treeFault f
theorem fsFault_t {f : DFs} (h : ¬ treeFault f = 0) : fsFault f = treeFault f := if_neg h
theorem fsFault_1 {f : DFs} (h : treeFault f = 0) (h2 : ¬ LinksOk f ∨ ¬ DataOk f) : fsFault f = 1 := by unfold fsFault; rw [if_pos h, if_neg (fun hh => h2.elim (fun k => k hh.1) (fun k => k hh.2))]
theorem fsFault_0 {f : DFs} (h : treeFault f = 0) (h2 : LinksOk f) (h3 : DataOk f) : fsFault f = 0 := by unfold fsFault; rw [if_pos h, if_pos ⟨h2, h3⟩]
theorem fsFault_l {f : DFs} (h : treeFault f = 0) (h2 : ¬ linksF f = 0) : fsFault f = linksF f := by
  by_cases hl : LinksOk f
  · exact absurd (linksF_0 hl) h2
  · rw [fsFault_1 h (.inl hl), linksF_1 hl]
theorem fsFault_d {f : DFs} (h : treeFault f = 0) (h2 : linksF f = 0) : fsFault f = dataF f := by
  by_cases hl : LinksOk f
  · by_cases hd : DataOk f
    · rw [fsFault_0 h hl hd, dataF_0 hd]
    · rw [fsFault_1 h (.inr hd), dataF_1 hd]
  · rw [linksF_1 hl] at h2; exact absurd h2 (by decide)
theorem fsTree {f : DFs} (h : fsFault f = 0) : treeFault f = 0 := by
  unfold fsFault at h
  split at h
  · assumption
  · contradiction
theorem fsOk {f : DFs} (h : fsFault f = 0) : treeFault f = 0 ∧ LinksOk f ∧ DataOk f := by
  refine ⟨fsTree h, ?_⟩
  apply Classical.byContradiction
  intro hn
  by_cases hl : LinksOk f
  · have := fsFault_1 (fsTree h) (.inr fun hd => hn ⟨hl, hd⟩); omega
  · have := fsFault_1 (fsTree h) (.inl hl); omega
/-! ### the bytes of a file -/
noncomputable def bytesCode (f : DFs) (a : Int) : Int := if fsFault f = 0 then if placeIn f.inodes.length a then if kindAt f.inodes a = 2 then 9 else if kindAt f.inodes a = 0 then 4 else 0 else 3 else fsFault f
theorem bytesCode_f {f : DFs} {a : Int} (h : ¬ fsFault f = 0) : bytesCode f a = fsFault f := if_neg h
theorem bytesCode_3 {f : DFs} {a : Int} (h : fsFault f = 0) (h2 : ¬ placeIn f.inodes.length a) : bytesCode f a = 3 := by unfold bytesCode; rw [if_pos h, if_neg h2]
theorem bytesCode_9 {f : DFs} {a : Int} (h : fsFault f = 0) (h2 : placeIn f.inodes.length a) (h3 : kindAt f.inodes a = 2) : bytesCode f a = 9 := by unfold bytesCode; rw [if_pos h, if_pos h2, if_pos h3]
theorem bytesCode_4 {f : DFs} {a : Int} (h : fsFault f = 0) (h2 : placeIn f.inodes.length a) (h3 : ¬ kindAt f.inodes a = 2) (h4 : kindAt f.inodes a = 0) : bytesCode f a = 4 := by unfold bytesCode; rw [if_pos h, if_pos h2, if_neg h3, if_pos h4]
theorem bytesCode_0 {f : DFs} {a : Int} (h : fsFault f = 0) (h2 : placeIn f.inodes.length a) (h3 : ¬ kindAt f.inodes a = 2) (h4 : ¬ kindAt f.inodes a = 0) : bytesCode f a = 0 := by unfold bytesCode; rw [if_pos h, if_pos h2, if_neg h3, if_neg h4]
theorem bytesOk {f : DFs} {a : Int} (h : bytesCode f a = 0) : fsFault f = 0 ∧ placeIn f.inodes.length a ∧ ¬ kindAt f.inodes a = 2 ∧ ¬ kindAt f.inodes a = 0 := by
  unfold bytesCode at h
  split at h
  · split at h
    · split at h
      · exact absurd h (by decide)
      · split at h
        · exact absurd h (by decide)
        · rename_i h1 h2 h3 h4; exact ⟨h1, h2, h3, h4⟩
    · exact absurd h (by decide)
  · contradiction
def blockD (data : List (List UInt8)) (b : Int) : List UInt8 := data.getD b.toNat []
def bytesTo (data : List (List UInt8)) (bs : List Int) (k : Nat) : List UInt8 := ((bs.take k).map (blockD data)).flatten
def blocksAt (xs : List DInode) (a : Int) : List Int := match xs[a.toNat]? with | some x => x.blocks | none => []
theorem blocks_at {xs : List DInode} {a : Int} {j : Nat} {x : DInode} (hx : xs[j]? = some x) (h : a = (j : Int)) : blocksAt xs a = x.blocks := by
  subst h
  unfold blocksAt
  rw [Int.toNat_natCast, hx]
def fileB (f : DFs) (a : Int) : List UInt8 := bytesTo f.data (blocksAt f.inodes a) (blocksAt f.inodes a).length
theorem bytesTo_s {data : List (List UInt8)} {bs : List Int} {k : Nat} {b : Int} {d : List UInt8} (hb : bs[k]? = some b) (hd : data[b.toNat]? = some d) : bytesTo data bs k ++ d = bytesTo data bs (k + 1) := by
  unfold bytesTo
  rw [← take_snoc hb, List.map_append, List.flatten_append]
  simp [blockD, hd]
theorem bytesTo_all {data : List (List UInt8)} {bs : List Int} {k : Nat} (h : bs.length ≤ k) : bytesTo data bs k = bytesTo data bs bs.length := by
  unfold bytesTo; rw [List.take_of_length_le h, List.take_length]
theorem bytesTo_len {data : List (List UInt8)} {bs : List Int} (k : Nat) (h4 : bs.length ≤ 4) (h8 : ∀ d, d ∈ data → d.length ≤ 8) : (bytesTo data bs k).length ≤ 32 := by
  unfold bytesTo
  have h1 : (bs.take k).length ≤ 4 := by rw [List.length_take]; omega
  have h2 : ∀ l : List Int, ((l.map (blockD data)).flatten).length ≤ l.length * 8 := by
    intro l
    induction l with
    | nil => simp
    | cons b l ih =>
      have : (blockD data b).length ≤ 8 := by
        unfold blockD
        rw [List.getD_eq_getElem?_getD]
        cases hd : data[b.toNat]? with
        | none => simp
        | some d => simpa using h8 d (List.mem_of_getElem? hd)
      simp only [List.map_cons, List.flatten_cons, List.length_append, List.length_cons]
      omega
  have := h2 (bs.take k)
  omega
theorem data_8 {f : DFs} (h : treeFault f = 0) : ∀ d, d ∈ f.data → d.length ≤ 8 := fun d hd => by
  have h1 := (treeOk h).2.1
  unfold bigD at h1
  rw [List.any_eq_false] at h1
  have := h1 d hd
  simp only [decide_eq_true_eq] at this
  omega
theorem data_20 {f : DFs} (h : treeFault f = 0) : f.data.length = 20 := (rootOk (treeOk h).1).2.2.2
noncomputable def bytesR (f : DFs) (a : Int) : RBytes := if bytesCode f a = 0 then ⟨0, fileB f a⟩ else ⟨bytesCode f a, []⟩
theorem bytesR_f {f : DFs} {a : Int} (h : ¬ bytesCode f a = 0) : bytesR f a = ⟨bytesCode f a, []⟩ := if_neg h
theorem bytesR_0 {f : DFs} {a : Int} (h : bytesCode f a = 0) : bytesR f a = ⟨0, fileB f a⟩ := if_pos h
end Go.Proofs.YticaddophhggoaaGreat
/- What is proved: arrays of whole numbers in memory and as values; the lesser of two numbers. No condition. -/
namespace Go.Proofs.YticaddophhggoaaGreat
open Go Go.RowKit
set_option linter.unusedVariables false
set_option linter.unusedSimpArgs false
section
variable {P : Program} {T : Slots} {Wd : World → Prop} {o : Oper} {x y : Operand} {t e : TypeId}
theorem q_indexAddrA {sz n j : Nat} {ad : Addr} {k : IntKind} {i : Int} (ho : o.op = .indexAddr t x y) (ht : P.underlying t = some (.array n e)) (he : (P.info? e).map (·.size) = some sz) (hx : Val T x (.pointer (some ad))) (hy : Val T y (.int k i)) (hi : i = j) (hj : j < n) :
    Quiet P o T Wd (.pointer (some (ad.add (j * sz)))) := fun a w ha _ => by
  subst hi
  obtain ⟨i0, h1, h2⟩ := Option.map_eq_some_iff.1 he
  simp only [execOp, ho, hx a ha, hy a ha]
  simp [Instr.indexAt, asIntOf, run_underlying ht, Instr.sureAddr, sizeOf, typeInfo, h1, h2, hj]
theorem q_indexArr {n j : Nat} {L : List Int} {k : IntKind} {i z : Int} (ho : o.op = .index t x y) (ht : P.underlying t = some (.array n e)) (he : (P.info? e).map (·.size) = some 1) (hg : AggIs P e false) (hx : Val T x (.agg (L.map (Value.int .i64)).toArray)) (hy : Val T y (.int k i)) (hi : i = j) (hj : L[j]? = some z) (hl : L.length = n) :
    Quiet P o T Wd (.int .i64 z) := fun a w ha _ => by
  subst hi
  obtain ⟨i0, h1, h2⟩ := Option.map_eq_some_iff.1 he
  obtain ⟨d, hd, hd2⟩ := hg.ex
  have hag := run_isAgg hd w
  rw [hd2] at hag
  have hlt : j < n := by rw [← hl]; exact (List.getElem?_eq_some_iff.1 hj).1
  have hp : (part e (L.map (Value.int .i64)).toArray (j * 1)).run P w = .ok (.int .i64 z) w := by
    unfold part
    rw [Sem.run_bind, hag]
    simp [hj]
  simp only [execOp, ho, hx a ha, hy a ha]
  simp [Instr.index, asIntOf, run_underlying ht, sizeOf, typeInfo, h1, h2, hlt]
  rw [Nat.mul_one] at hp
  simp [hp]
theorem q_min {ts : Array TypeId} {a b : Int} {k : IntKind} (ho : o.op = .call { callee := .builtin .min, args := #[x, y], argTypes := ts }) (hx : Val T x (.int k a)) (hy : Val T y (.int k b)) : Quiet P o T Wd (.int k (minI a b)) := fun ac w ha _ => by
  simp only [execOp, ho]
  simp [resolve, hx ac ha, hy ac ha, invoke, builtin, Builtin.min_, Builtin.min2, minI_sw]
end
theorem set1_at {v : Value} : ∀ {l : List Value} {n : Nat}, n < l.length → Set1 l n v (l.set n v)
  | _ :: _, 0, _ => .z
  | _ :: _, n + 1, h => .s (set1_at (by simpa using h))
  | [], _, h => by simp at h
theorem put_at {v : Value} {l : List Value} {n : Nat} (h : n < l.length) : PutN l n [v] (l.set n v) := .c (set1_at h) .n
theorem put_all : ∀ {pre cs fl : List Value}, fl.length = cs.length → PutN (pre ++ fl) pre.length cs (pre ++ cs)
  | pre, [], [], _ => by simpa using PutN.n
  | pre, c :: cs, f :: fl, h => by
    have h1 : Set1 (pre ++ f :: fl) pre.length c ((pre ++ [c]) ++ fl) := by
      have := set1_at (v := c) (l := pre ++ f :: fl) (n := pre.length) (by simp)
      simpa [List.set_append] using this
    have h2 := put_all (pre := pre ++ [c]) (cs := cs) (fl := fl) (by simpa using h)
    refine .c h1 ?_
    simpa using h2
  | _, [], _ :: _, h => by simp at h
  | _, _ :: _, [], h => by simp at h
theorem put_whole {cs fl : List Value} (h : fl.length = cs.length) : PutN fl 0 cs cs := by simpa using put_all (pre := []) h
theorem map_set (L : List Int) (j : Nat) (z : Int) : (L.map (Value.int .i64)).set j (.int .i64 z) = (L.set j z).map (Value.int .i64) := by rw [List.map_set]
theorem put_arr {L : List Int} {j : Nat} {z : Int} (h : j < L.length) : PutN (L.map (Value.int .i64)) (j * 1) [.int .i64 z] ((L.set j z).map (Value.int .i64)) := by
  rw [Nat.mul_one, ← map_set]
  exact put_at (by rwa [List.length_map])
theorem ones_map (L : List Int) : ∀ u, u ∈ L.map (Value.int .i64) → u.oneCell' = true := fun u hu => by
  obtain ⟨z, _, rfl⟩ := List.mem_map.1 hu
  rfl
end Go.Proofs.YticaddophhggoaaGreat
/- What is proved: paths: cut at a byte, joined again, in plain Lean. No condition. -/
namespace Go.Proofs.YticaddophhggoaaGreat
open Go Go.RowKit
set_option linter.unusedVariables false
set_option linter.unusedSimpArgs false
abbrev sl1 : ByteArray := ⟨#[47]⟩
/-! ### cut at a slash -/
def cutL : List UInt8 → List (List UInt8)
  | [] => [[]]
  | b :: l => if b = 47 then [] :: cutL l else match cutL l with | [] => [[b]] | p :: ps => (b :: p) :: ps
theorem cutL_ne : ∀ l, cutL l ≠ []
  | [] => by simp [cutL]
  | b :: l => by
    unfold cutL
    split
    · simp
    · split <;> simp
theorem cutL_no : ∀ {l : List UInt8}, (∀ b, b ∈ l → b ≠ 47) → cutL l = [l]
  | [], _ => rfl
  | b :: l, h => by
    unfold cutL
    rw [if_neg (h b (by simp)), cutL_no (fun c hc => h c (by simp [hc]))]
theorem cutL_at : ∀ {n : Nat} {l : List UInt8}, (∀ (j : Nat) b, j < n → l[j]? = some b → b ≠ 47) → l[n]? = some 47 → cutL l = l.take n :: cutL (l.drop (n + 1))
  | 0, [], _, h => by simp at h
  | 0, b :: l, _, h => by
    have : b = 47 := by simpa using h
    subst this
    rw [cutL, if_pos rfl]
    simp
  | n + 1, [], _, h => by simp at h
  | n + 1, b :: l, ha, h => by
    have ih := cutL_at (n := n) (l := l) (fun j c hj hc => ha (j + 1) c (by omega) (by simpa using hc)) (by simpa using h)
    have h0 : b ≠ 47 := ha 0 b (by omega) (by simp)
    rw [cutL, if_neg h0, ih]
    simp
theorem split_eq : ∀ l : List UInt8, Lib.split l [47] = cutL l
  | [] => by
    have : Lib.index [] [47] = -1 := by decide
    unfold Lib.split
    rw [Lib.count_miss this]
    rfl
  | b :: l => by
    have ih := split_eq l
    unfold Lib.split at ih ⊢
    by_cases hb : b = 47
    · subst hb
      have hix : Lib.index ((47 : UInt8) :: l) [47] = ((0 : Nat) : Int) := by rw [Lib.index]; simp [List.isPrefixOf]
      rw [Lib.count_cons_eq, Nat.add_comm, Lib.splitK, if_neg (by rw [hix]; decide), hix]
      rw [cutL, if_pos rfl, ← ih]
      simp
    · have hp : ([47] : List UInt8).isPrefixOf (b :: l) = false := by simp [List.isPrefixOf, Ne.symm hb]
      have hix : Lib.index (b :: l) [47] = if Lib.index l [47] == -1 then -1 else Lib.index l [47] + 1 := by rw [Lib.index, hp]; simp
      rw [Lib.count_cons_ne b 47 l hb, cutL, if_neg hb]
      by_cases hm : Lib.index l [47] = -1
      · rw [Lib.count_miss hm] at ih ⊢
        rw [Lib.splitK] at ih ⊢
        rw [← ih]
      · have hge := Lib.index_ge l [47]
        obtain ⟨j, hj⟩ : ∃ j : Nat, Lib.index l [47] = j := ⟨(Lib.index l [47]).toNat, by omega⟩
        have hc : Lib.count l [47] = Lib.count (l.drop (j + 1)) [47] + 1 := by rw [Lib.count_hit (by simp) hj]; simp; omega
        have hix' : Lib.index (b :: l) [47] = ((j + 1 : Nat) : Int) := by rw [hix, if_neg (fun e => hm (beq_iff_eq.1 e)), hj]; omega
        rw [hc] at ih ⊢
        rw [Lib.splitK, if_neg (by rw [hj]; simp), hj] at ih
        rw [Lib.splitK, if_neg (by rw [hix']; simp; omega), hix', ← ih]
        simp
def cutB (s : ByteArray) : List ByteArray := (cutL s.data.toList).map bstr
theorem bstr_data (s : ByteArray) : bstr s.data.toList = s := by cases s; simp [bstr]
theorem splitB_cut (s : ByteArray) : Lib.splitB sl1 0 (Lib.countB s sl1) s = cutB s := by
  have h := Lib.splitB_data sl1 0 (Lib.countB s sl1) s
  have e : Lib.splitK sl1.data.toList 0 (Lib.countB s sl1) s.data.toList = cutL s.data.toList := split_eq s.data.toList
  rw [e] at h
  unfold cutB
  rw [← h, List.map_map]
  have : (bstr ∘ fun x : ByteArray => x.data.toList) = id := funext fun x => bstr_data x
  rw [this, List.map_id]
theorem cutB_ne (s : ByteArray) : cutB s ≠ [] := by unfold cutB; simp [cutL_ne]
theorem cutB_len (s : ByteArray) : 1 ≤ (cutB s).length := by
  have := cutB_ne s
  cases h : cutB s with
  | nil => exact absurd h this
  | cons a l => simp
theorem cutL_len : ∀ l : List UInt8, (cutL l).length ≤ l.length + 1
  | [] => by simp [cutL]
  | b :: l => by
    have := cutL_len l
    unfold cutL
    split
    · simp; omega
    · split
      · simp
      · rename_i p ps h
        rw [h] at this
        simp at this ⊢
        omega
theorem cutL_size : ∀ (l : List UInt8) (p : List UInt8), p ∈ cutL l → p.length ≤ l.length
  | [], p, h => by simp [cutL] at h; subst h; simp
  | b :: l, p, h => by
    unfold cutL at h
    split at h
    · rcases List.mem_cons.1 h with rfl | h
      · simp
      · have := cutL_size l p h; simp; omega
    · split at h
      · rename_i h2; exact absurd h2 (cutL_ne l)
      · rename_i q ps h2
        rcases List.mem_cons.1 h with rfl | h
        · have := cutL_size l q (by rw [h2]; simp); simp; omega
        · have := cutL_size l p (by rw [h2]; simp [h]); simp; omega
theorem cutB_size {s p : ByteArray} (h : p ∈ cutB s) : p.size ≤ s.size := by
  unfold cutB at h
  obtain ⟨q, hq, rfl⟩ := List.mem_map.1 h
  have := cutL_size _ q hq
  have e := str_len s
  have e2 : (bstr q).size = q.length := by simp [bstr, ByteArray.size]
  omega
/-! the loop that cuts -/
def CI (l : List UInt8) (m k : Nat) (out : List ByteArray) : Prop :=
  m ≤ k ∧ (∀ (j : Nat) b, m ≤ j → j < k → l[j]? = some b → b ≠ 47) ∧ (cutL l).map bstr = out ++ (cutL (l.drop m)).map bstr
theorem CI_0 {l : List UInt8} : CI l 0 0 [] := ⟨Nat.le_refl _, fun j b h1 h2 => absurd h2 (by omega), rfl⟩
theorem CI_n {l : List UInt8} {m k : Nat} {out : List ByteArray} {b : UInt8} (h : CI l m k out) (hb : l[k]? = some b) (hn : b ≠ 47) : CI l m (k + 1) out :=
  ⟨by have := h.1; omega, fun j c h1 h2 hc => by
    rcases Nat.lt_succ_iff_lt_or_eq.1 h2 with h3 | rfl
    · exact h.2.1 j c h1 h3 hc
    · rw [hb] at hc; obtain rfl := Option.some.inj hc; exact hn, h.2.2⟩
theorem CI_y {s : ByteArray} {m k : Nat} {out : List ByteArray} {b : UInt8} (h : CI s.data.toList m k out) (hb : s.data.toList[k]? = some b) (hn : b = 47) : CI s.data.toList (k + 1) (k + 1) (out ++ [s.extract m k]) := by
  subst hn
  obtain ⟨h1, h2, h3⟩ := h
  refine ⟨Nat.le_refl _, fun j c a b => absurd a (by omega), ?_⟩
  have hk : m + (k - m) = k := by omega
  have e := cutL_at (n := k - m) (l := s.data.toList.drop m) (fun j c hj hc => h2 (m + j) c (by omega) (by omega) (by rw [List.getElem?_drop] at hc; exact hc)) (by rw [List.getElem?_drop, hk]; exact hb)
  rw [h3, e, List.drop_drop, List.map_cons, show m + (k - m + 1) = k + 1 by omega]
  have e2 : s.extract m k = bstr (List.take (k - m) (List.drop m s.data.toList)) := by
    rw [← bstr_data (s.extract m k), Lib.extract_data]
  rw [e2]
  simp
theorem CI_end {s : ByteArray} {m k : Nat} {out : List ByteArray} (h : CI s.data.toList m k out) (hk : k = s.size) : out ++ [s.extract m k] = cutB s := by
  subst hk
  obtain ⟨h1, h2, h3⟩ := h
  unfold cutB
  rw [h3, cutL_no (fun b hb => by
    obtain ⟨j, hj⟩ := List.mem_iff_getElem?.1 hb
    rw [List.getElem?_drop] at hj
    have := (List.getElem?_eq_some_iff.1 hj).1
    rw [str_len] at this
    exact h2 (m + j) b (by omega) (by omega) hj)]
  have e : List.take (s.size - m) (List.drop m s.data.toList) = List.drop m s.data.toList := List.take_of_length_le (by rw [List.length_drop, str_len]; omega)
  rw [← bstr_data (s.extract m s.size), Lib.extract_data, e]
  simp
/-! ### the faults of names -/
def firstC : List ByteArray → Int
  | [] => 0
  | s :: l => if nameFault s = 0 then firstC l else nameFault s
theorem firstC_all : ∀ {xs : List ByteArray}, (∀ (j : Nat) s, xs[j]? = some s → nameFault s = 0) → firstC xs = 0
  | [], _ => rfl
  | s :: l, h => by
    unfold firstC
    rw [if_pos (h 0 s (by simp))]
    exact firstC_all (fun j t ht => h (j + 1) t (by simpa using ht))
theorem firstC_at : ∀ {xs : List ByteArray} {k : Nat} {s : ByteArray}, (∀ (j : Nat) s, j < k → xs[j]? = some s → nameFault s = 0) → xs[k]? = some s → ¬ nameFault s = 0 → firstC xs = nameFault s
  | [], _, _, _, h, _ => by simp at h
  | t :: l, 0, s, _, h, hn => by
    have : t = s := by simpa using h
    subst this
    unfold firstC
    rw [if_neg hn]
  | t :: l, k + 1, s, ha, h, hn => by
    unfold firstC
    rw [if_pos (ha 0 t (by omega) (by simp))]
    exact firstC_at (k := k) (fun j u hj hu => ha (j + 1) u (by omega) (by simpa using hu)) (by simpa using h) hn
theorem firstC_0 : ∀ {xs : List ByteArray}, firstC xs = 0 → ∀ s, s ∈ xs → nameFault s = 0
  | [], _, _, h => by simp at h
  | t :: l, h0, s, h => by
    unfold firstC at h0
    split at h0
    · rename_i ht
      rcases List.mem_cons.1 h with rfl | h
      · exact ht
      · exact firstC_0 h0 s h
    · rename_i ht; exact absurd h0 ht
def namesC (xs : List ByteArray) : Int := if 6 < xs.length then 2 else firstC xs
theorem namesC_2 {xs : List ByteArray} (h : 6 < xs.length) : namesC xs = 2 := if_pos h
theorem namesC_n {xs : List ByteArray} (h : ¬ 6 < xs.length) {k : Nat} {s : ByteArray} (ha : ∀ (j : Nat) s, j < k → xs[j]? = some s → nameFault s = 0) (hs : xs[k]? = some s) (hn : ¬ nameFault s = 0) : namesC xs = nameFault s := by rw [namesC, if_neg h, firstC_at ha hs hn]
theorem namesC_0 {xs : List ByteArray} (h : ¬ 6 < xs.length) {k : Nat} (ha : ∀ (j : Nat) s, j < k → xs[j]? = some s → nameFault s = 0) (hk : xs.length ≤ k) : namesC xs = 0 := by
  rw [namesC, if_neg h]
  exact firstC_all fun j s hs => ha j s (Nat.lt_of_lt_of_le (List.getElem?_eq_some_iff.1 hs).1 hk) hs
theorem namesOk {xs : List ByteArray} (h : namesC xs = 0) : xs.length ≤ 6 ∧ ∀ s, s ∈ xs → nameFault s = 0 := by
  unfold namesC at h
  split at h
  · exact absurd h (by decide)
  · exact ⟨by omega, firstC_0 h⟩
/-! ### a path split -/
abbrev tailB (s : ByteArray) : ByteArray := ByteArray.extract s 1 s.size
def badP (s : ByteArray) : Prop := s.data.toList[0]? ≠ some 47 ∨ s.data.toList[s.size - 1]? = some 47
instance (s : ByteArray) : Decidable (badP s) := by unfold badP; infer_instance
def splitC (s : ByteArray) : Int := if 30 < s.size then 2 else if s = sl1 then 0 else if badP s then 5 else namesC (cutB (tailB s))
def splitN (s : ByteArray) : List ByteArray := if splitC s = 0 ∧ s ≠ sl1 then cutB (tailB s) else []
theorem split_2 {s : ByteArray} (h : 30 < s.size) : splitC s = 2 ∧ splitN s = [] := by
  have : splitC s = 2 := if_pos h
  exact ⟨this, by rw [splitN, if_neg]; rw [this]; simp⟩
theorem split_r {s : ByteArray} (h : ¬ 30 < s.size) (h2 : s = sl1) : splitC s = 0 ∧ splitN s = [] := by
  have : splitC s = 0 := by rw [splitC, if_neg h, if_pos h2]
  exact ⟨this, by rw [splitN, if_neg]; simp [h2]⟩
theorem split_5 {s : ByteArray} (h : ¬ 30 < s.size) (h2 : ¬ s = sl1) (h3 : badP s) : splitC s = 5 ∧ splitN s = [] := by
  have : splitC s = 5 := by rw [splitC, if_neg h, if_neg h2, if_pos h3]
  exact ⟨this, by rw [splitN, if_neg]; rw [this]; simp⟩
theorem split_c {s : ByteArray} (h : ¬ 30 < s.size) (h2 : ¬ s = sl1) (h3 : ¬ badP s) (h4 : ¬ namesC (cutB (tailB s)) = 0) : splitC s = namesC (cutB (tailB s)) ∧ splitN s = [] := by
  have : splitC s = namesC (cutB (tailB s)) := by rw [splitC, if_neg h, if_neg h2, if_neg h3]
  exact ⟨this, by rw [splitN, if_neg]; rw [this]; simp [h4]⟩
theorem split_0 {s : ByteArray} (h : ¬ 30 < s.size) (h2 : ¬ s = sl1) (h3 : ¬ badP s) (h4 : namesC (cutB (tailB s)) = 0) : splitC s = 0 ∧ splitN s = cutB (tailB s) := by
  have : splitC s = 0 := by rw [splitC, if_neg h, if_neg h2, if_neg h3, h4]
  exact ⟨this, by rw [splitN, if_pos ⟨this, h2⟩]⟩
theorem splitN_ok (s : ByteArray) : (splitN s).length ≤ 6 ∧ ∀ x, x ∈ splitN s → nameFault x = 0 := by
  by_cases h : splitC s = 0 ∧ s ≠ sl1
  · obtain ⟨h1, h2⟩ := h
    have h3 : splitN s = cutB (tailB s) := by rw [splitN, if_pos ⟨h1, h2⟩]
    unfold splitC at h1
    split at h1
    · exact absurd h1 (by decide)
    · split at h1
      · exact absurd h1 (by decide)
      · rw [h3]; exact namesOk h1
  · rw [splitN, if_neg h]; simp
/-! ### joined -/
def joinL (xs : List ByteArray) : List UInt8 := (xs.map (fun s => 47 :: s.data.toList)).flatten
def joinB (xs : List ByteArray) : ByteArray := if xs = [] then sl1 else bstr (joinL xs)
theorem join_eq (xs : List ByteArray) : sl1 ++ bstr (Lib.join (xs.map (·.data.toList)) [47]) = joinB xs := by
  cases xs with
  | nil => rfl
  | cons x r =>
    rw [joinB, if_neg (by simp), List.map_cons, Lib.join_cons]
    rw [← bstr_data (sl1 ++ _)]
    congr 1
    simp [joinL, Lib.joinTail, bstr, List.map_map, Function.comp_def]
theorem joinL_len {xs : List ByteArray} (h : ∀ s, s ∈ xs → nameFault s = 0) : (joinL xs).length ≤ 5 * xs.length := by
  induction xs with
  | nil => simp [joinL]
  | cons x r ih =>
    have h1 := (name_4 (h x (by simp))).1
    have h2 := ih (fun s hs => h s (by simp [hs]))
    have h3 := str_len x
    simp only [joinL, List.map_cons, List.flatten_cons, List.length_append, List.length_cons] at h2 ⊢
    omega
theorem joinL_snoc (xs : List ByteArray) (x : ByteArray) : joinL (xs ++ [x]) = joinL xs ++ 47 :: x.data.toList := by simp [joinL]
def jnB (xs : List ByteArray) : ByteArray := bstr (joinL xs)
theorem jnB_s {xs : List ByteArray} {k : Nat} {x : ByteArray} (h : xs[k]? = some x) : jnB (xs.take k) ++ sl1 ++ x = jnB (xs.take (k + 1)) := by
  rw [List.take_add_one, h]
  have e : ∀ a b : ByteArray, a = bstr b.data.toList → a = b := fun a b h => by rw [h, bstr_data]
  symm
  apply e
  unfold jnB
  congr 1
  simp [joinL, bstr]
theorem jnB_e {xs : List ByteArray} : (jnB xs = ⟨#[]⟩) ↔ xs = [] := by
  constructor
  · intro h
    cases xs with
    | nil => rfl
    | cons x r =>
      have := congrArg (fun b : ByteArray => b.data.toList) h
      simp [jnB, bstr, joinL] at this
  · rintro rfl; rfl
theorem joinB_e {xs : List ByteArray} (h : jnB xs = ⟨#[]⟩) : joinB xs = sl1 := if_pos (jnB_e.1 h)
theorem joinB_n {xs : List ByteArray} (h : ¬ jnB xs = ⟨#[]⟩) : joinB xs = jnB xs := if_neg (fun e => h (jnB_e.2 e))
theorem jnB_size {xs : List ByteArray} (h : ∀ s, s ∈ xs → nameFault s = 0) : (jnB xs).size ≤ 5 * xs.length := by
  have := joinL_len h
  simpa [jnB, bstr, ByteArray.size] using this
theorem joinB_size {xs : List ByteArray} (h : ∀ s, s ∈ xs → nameFault s = 0) : (joinB xs).size ≤ 5 * xs.length + 1 := by
  unfold joinB
  split
  · show (1 : Nat) ≤ _; omega
  · have := jnB_size h; unfold jnB at this; omega
theorem join_sz {xs : List ByteArray} (h : ∀ s, s ∈ xs → nameFault s = 0) (hl : xs.length ≤ 6) : (bstr (Lib.join (List.map (fun s : ByteArray => s.data.toList) xs) [47])).size ≤ 30 := by
  have h1 := joinB_size h
  have h2 := congrArg ByteArray.size (join_eq xs)
  rw [ByteArray.size_append] at h2
  have h3 : sl1.size = 1 := rfl
  have h4 : (bstr (Lib.join (xs.map (·.data.toList)) [47])).size = (bstr (Lib.join (List.map (fun s : ByteArray => s.data.toList) xs) [47])).size := rfl
  omega
theorem size_0 {s : ByteArray} {b : UInt8} {j : Nat} (h : s.data.toList[j]? = some b) : j < s.size := by rw [← str_len]; exact (List.getElem?_eq_some_iff.1 h).1
theorem byte_47 {b : UInt8} : (b.toNat : Int) = 47 ↔ b = 47 := ⟨fun h => UInt8.toNat_inj.1 (show b.toNat = (47 : UInt8).toNat by have : (47 : UInt8).toNat = 47 := rfl; omega), fun h => by subst h; rfl⟩
theorem bad_e {s : ByteArray} (h : (s.size : Int) = 0) : badP s := .inl (by rw [List.getElem?_eq_none (by rw [str_len]; omega)]; simp)
theorem bad_f {s : ByteArray} {b : UInt8} (hb : s.data.toList[0]? = some b) (h : ¬ (b.toNat : Int) = 47) : badP s := .inl (by rw [hb]; intro e; exact h (byte_47.2 (Option.some.inj e)))
theorem bad_l {s : ByteArray} {b : UInt8} {j : Nat} (hb : s.data.toList[j]? = some b) (hj : j = s.size - 1) (h : (b.toNat : Int) = 47) : badP s := .inr (by rw [← hj, hb, byte_47.1 h])
theorem nbad {s : ByteArray} {b c : UInt8} {j : Nat} (hb : s.data.toList[0]? = some b) (h : (b.toNat : Int) = 47) (hc : s.data.toList[j]? = some c) (hj : j = s.size - 1) (hn : ¬ (c.toNat : Int) = 47) : ¬ badP s := by
  rintro (h1 | h1)
  · exact h1 (by rw [hb, byte_47.1 h])
  · rw [← hj, hc] at h1; exact hn (byte_47.2 (Option.some.inj h1))
theorem nbad2 {s : ByteArray} (h : s.data.toList[0]? = some 47) (h2 : ¬ s.data.toList[s.size - 1]? = some 47) : ¬ badP s := by
  rintro (h1 | h1)
  · exact h1 h
  · exact h2 h1
/-! ### what is told -/
def splitR (s : ByteArray) : RNames := ⟨splitC s, splitN s⟩
def joinR (xs : List ByteArray) : RText := if namesC xs = 0 then ⟨0, joinB xs⟩ else ⟨namesC xs, ⟨#[]⟩⟩
theorem joinR_c {xs : List ByteArray} (h : ¬ namesC xs = 0) : joinR xs = ⟨namesC xs, ⟨#[]⟩⟩ := if_neg h
theorem joinR_0 {xs : List ByteArray} (h : namesC xs = 0) : joinR xs = ⟨0, joinB xs⟩ := if_pos h
def lastC (s : ByteArray) : Int := if splitC s = 0 then if splitN s = [] then 4 else 0 else splitC s
def lastN (s : ByteArray) : List ByteArray := if lastC s = 0 then (splitN s).take ((splitN s).length - 1) else []
def lastT (s : ByteArray) : ByteArray := if lastC s = 0 then ((splitN s)[(splitN s).length - 1]?).getD ⟨#[]⟩ else ⟨#[]⟩
theorem last_c {s : ByteArray} (h : ¬ splitC s = 0) : lastC s = splitC s ∧ lastN s = [] ∧ lastT s = ⟨#[]⟩ := by
  have : lastC s = splitC s := if_neg h
  exact ⟨this, by rw [lastN, this, if_neg h], by rw [lastT, this, if_neg h]⟩
theorem last_4 {s : ByteArray} (h : splitC s = 0) (h2 : splitN s = []) : lastC s = 4 ∧ lastN s = [] ∧ lastT s = ⟨#[]⟩ := by
  have : lastC s = 4 := by rw [lastC, if_pos h, if_pos h2]
  exact ⟨this, by rw [lastN, this, if_neg (by decide)], by rw [lastT, this, if_neg (by decide)]⟩
theorem last_0 {s : ByteArray} (h : splitC s = 0) (h2 : ¬ splitN s = []) : lastC s = 0 ∧ lastN s = (splitN s).take ((splitN s).length - 1) ∧ ∀ (j : Nat) x, j = (splitN s).length - 1 → (splitN s)[j]? = some x → lastT s = x := by
  have : lastC s = 0 := by rw [lastC, if_pos h, if_neg h2]
  exact ⟨this, by rw [lastN, if_pos this], fun j x hj hx => by rw [lastT, if_pos this, ← hj, hx]; rfl⟩
theorem len_nil {α : Type} {xs : List α} : (xs.length : Int) = 0 ↔ xs = [] := by rw [← List.length_eq_zero_iff]; omega
theorem lastN_ok (s : ByteArray) : (lastN s).length ≤ 6 ∧ ∀ x, x ∈ lastN s → nameFault x = 0 := by
  have h := splitN_ok s
  unfold lastN
  split
  · exact ⟨by rw [List.length_take]; omega, fun x hx => h.2 x (List.mem_of_mem_take hx)⟩
  · simp
theorem lastT_size (s : ByteArray) : (lastT s).size ≤ 4 := by
  unfold lastT
  split
  · cases hx : (splitN s)[(splitN s).length - 1]? with
    | none => exact Nat.zero_le _
    | some x => exact (name_4 ((splitN_ok s).2 x (List.mem_of_getElem? hx))).1
  · exact Nat.zero_le _
def parentR (s : ByteArray) : RText := if lastC s = 0 then ⟨0, joinB (lastN s)⟩ else ⟨lastC s, ⟨#[]⟩⟩
theorem parentR_c {s : ByteArray} (h : ¬ lastC s = 0) : parentR s = ⟨lastC s, ⟨#[]⟩⟩ := if_neg h
theorem parentR_0 {s : ByteArray} (h : lastC s = 0) : parentR s = ⟨0, joinB (lastN s)⟩ := if_pos h
def lastR (s : ByteArray) : RText := if lastC s = 0 then ⟨0, lastT s⟩ else ⟨lastC s, ⟨#[]⟩⟩
theorem lastR_c {s : ByteArray} (h : ¬ lastC s = 0) : lastR s = ⟨lastC s, ⟨#[]⟩⟩ := if_neg h
theorem lastR_0 {s : ByteArray} (h : lastC s = 0) : lastR s = ⟨0, lastT s⟩ := if_pos h
theorem parentR_size (s : ByteArray) : (parentR s).text.size ≤ 140737488351232 := by
  unfold parentR
  split
  · have h := lastN_ok s
    have := joinB_size h.2
    show (joinB (lastN s)).size ≤ _
    omega
  · exact Nat.zero_le _
theorem lastR_size (s : ByteArray) : (lastR s).text.size ≤ 140737488351232 := by
  have := lastT_size s
  unfold lastR
  split
  · show (lastT s).size ≤ _; omega
  · exact Nat.zero_le _
theorem joinR_size (xs : List ByteArray) : (joinR xs).text.size ≤ 140737488351232 := by
  unfold joinR
  split
  · rename_i h
    have := joinB_size (namesOk h).2
    have := (namesOk h).1
    show (joinB xs).size ≤ _
    omega
  · exact Nat.zero_le _
def belowB (p t : ByteArray) : Bool := decide (splitC p = 0 ∧ splitC t = 0 ∧ (splitN t).length < (splitN p).length ∧ (splitN p).take (splitN t).length = splitN t)
theorem below_n {p t : ByteArray} (h : ¬ (splitC p = 0 ∧ splitC t = 0 ∧ (splitN t).length < (splitN p).length)) : belowB p t = false := decide_eq_false fun h2 => h ⟨h2.1, h2.2.1, h2.2.2.1⟩
theorem below_t {p t : ByteArray} (h1 : splitC p = 0) (h2 : splitC t = 0) (h3 : (splitN t).length < (splitN p).length) : belowB p t = decide ((splitN p).take (splitN t).length = splitN t) := by
  unfold belowB
  rw [decide_eq_decide]
  exact ⟨fun h => h.2.2.2, fun h => ⟨h1, h2, h3, h⟩⟩
theorem below_e {p t : ByteArray} (h1 : splitC p = 0) (h2 : splitC t = 0) (h3 : (splitN t).length < (splitN p).length) {k : Nat} (hk : (splitN t).length ≤ k) (ha : ∀ (j : Nat), j < k → (splitN p)[j]? = (splitN t)[j]? ∨ (splitN t).length ≤ j) : belowB p t = true := by
  rw [below_t h1 h2 h3, decide_eq_true_iff]
  apply List.ext_getElem?
  intro j
  rw [List.getElem?_take]
  split
  · rcases ha j (by omega) with h | h
    · exact h
    · omega
  · rw [List.getElem?_eq_none (by omega)]
theorem below_ne {p t : ByteArray} {j : Nat} {x y : ByteArray} (hx : (splitN p)[j]? = some x) (hy : (splitN t)[j]? = some y) (hn : ¬ x = y) : belowB p t = false := by
  refine decide_eq_false fun h => hn ?_
  have hj := (List.getElem?_eq_some_iff.1 hy).1
  have : ((splitN p).take (splitN t).length)[j]? = (splitN t)[j]? := by rw [h.2.2.2]
  rw [List.getElem?_take, if_pos hj, hx, hy] at this
  exact Option.some.inj this
theorem ext_size {s : ByteArray} {a b B : Nat} (h : s.size ≤ B) : (ByteArray.extract s a b).size ≤ B := by rw [ByteArray.size_extract]; omega
end Go.Proofs.YticaddophhggoaaGreat
/- What is proved: the library's contracts on strings, told of our kinds. No condition. -/
namespace Go.Proofs.YticaddophhggoaaGreat
open Go Go.RowKit
set_option linter.unusedVariables false
set_option linter.unusedSimpArgs false
theorem ws_nil (w0 : World) (S0 : Bs) : WS w0 S0 [] w0 := ⟨fun _ => False, trivial, fun _ h => h.elim, Fr.refl _ _⟩
theorem cell_spot {w : World} {a : Addr} {v : Value} (h : w.cell? a = some v) : a = ⟨a.block, a.off, none⟩ := by
  unfold World.cell? at h
  split at h
  · split at h
    · cases h
    · rename_i hs
      cases a with
      | mk b o s =>
        cases s with
        | none => rfl
        | some x => exact absurd rfl hs
  · cases h
theorem pre_0 (l : List UInt8) : Lib.hasPrefix l [47] = decide (l[0]? = some 47) := by
  cases l with
  | nil => simp [Lib.hasPrefix]
  | cons b l =>
    by_cases h : b = 47
    · subst h; simp [Lib.hasPrefix, List.isPrefixOf]
    · have h' : ¬ (47 : UInt8) = b := fun e => h e.symm
      simp [Lib.hasPrefix, List.isPrefixOf, h, h']
theorem suf_0 (s : ByteArray) : Lib.hasSuffix s.data.toList [47] = decide (s.data.toList[s.size - 1]? = some 47) := by
  rw [← str_len]
  generalize s.data.toList = l
  unfold Lib.hasSuffix
  rw [List.isSuffixOf, Bool.eq_iff_iff, decide_eq_true_iff]
  have e : l[l.length - 1]? = l.reverse[0]? := by
    cases hl : l with
    | nil => rfl
    | cons b t => rw [← hl, List.getElem?_reverse (by rw [hl]; simp)]; simp
  rw [e]
  cases l.reverse with
  | nil => simp [List.isPrefixOf]
  | cons b t =>
    by_cases h : b = 47
    · subst h; simp [List.isPrefixOf]
    · have h' : ¬ (47 : UInt8) = b := fun e => h e.symm
      simp [List.isPrefixOf, h, h']
theorem prefix_con {P : Program} {f : FuncId} {w0 : World} {S0 : Bs} {s : ByteArray}
    (h1 : ∀ (s p : ByteArray) (w : World), Calls P f #[.string s, .string p] w fun e w' => e = .returned (.bool (Lib.hasPrefix s.data.toList p.data.toList)) ∧ w' = w) :
    Calls P f #[.string s, .string ⟨#[47]⟩] w0 (TriPost w0 S0 (fun r l => r = .bool (decide (s.data.toList[0]? = some 47)) ∧ l = [])) :=
  (h1 s ⟨#[47]⟩ w0).mono fun e w' ⟨he, hw⟩ => by
    subst hw
    exact ⟨_, _, he, ⟨by rw [← pre_0], rfl⟩, ws_nil _ _⟩
theorem suffix_con {P : Program} {f : FuncId} {w0 : World} {S0 : Bs} {s : ByteArray} (hs : s.size ≤ 140737488351232)
    (h1 : ∀ (s p : ByteArray) (w : World), s.size ≤ 9223372036854775807 → Calls P f #[.string s, .string p] w fun e w' => e = .returned (.bool (Lib.hasSuffix s.data.toList p.data.toList)) ∧ w' = w) :
    Calls P f #[.string s, .string ⟨#[47]⟩] w0 (TriPost w0 S0 (fun r l => r = .bool (decide (s.data.toList[s.size - 1]? = some 47)) ∧ l = [])) :=
  (h1 s ⟨#[47]⟩ w0 (by omega)).mono fun e w' ⟨he, hw⟩ => by
    subst hw
    exact ⟨_, _, he, ⟨by rw [← suf_0], rfl⟩, ws_nil _ _⟩
def MaxL (g : Nat) (w : World) (F : Bs) : Prop := ∃ m : Int, PtrRo (kint .i64) w F ⟨g, 0, none⟩ m
theorem MaxL.tr {g : Nat} {w0 w : World} {S0 S1 : Bs} {lr : List Asn} (tr : Tr w0 S0 w S1 lr) (h : MaxL g w0 (FF w0 S0)) : MaxL g w (FF w S1) := h.imp fun _ h => tr.ctxP h
theorem MaxL.cell {g : Nat} {w : World} {F : Bs} (h : MaxL g w F) : ∃ m : Int, w.cell? ⟨g, 0, none⟩ = some (.int .i64 m) := by
  obtain ⟨m, ecs, hF, ⟨rfl, -⟩, hc⟩ := h
  exact ⟨m, by simpa [Addr.add] using hc 0 _ rfl⟩
theorem MaxL.of {g : Nat} {w : World} {F : Bs} (hF : F g) (h : ∃ m : Int, w.cell? ⟨g, 0, none⟩ = some (.int .i64 m)) : MaxL g w F := by
  obtain ⟨m, hm⟩ := h
  refine ⟨m, [.int .i64 m], hF, ⟨rfl, trivial⟩, fun i u hu => ?_⟩
  cases i with
  | zero => simp at hu; subst hu; simpa [Addr.add] using hm
  | succ i => simp at hu
theorem MaxL.ofc {g : Nat} {w : World} (h : ∃ m : Int, w.cell? ⟨g, 0, none⟩ = some (.int .i64 m)) : MaxL g w (FF w (fun _ => False)) := by
  refine MaxL.of ⟨?_, fun h => h⟩ h
  obtain ⟨m, hm⟩ := h
  unfold World.cell? at hm
  split at hm
  · rename_i c _ _ hh
    exact (Array.getElem?_eq_some_iff.1 hh).1
  · cases hm
theorem split_con {P : Program} {f : FuncId} {g t by_ : Nat} {w0 : World} {S0 : Bs} {s : ByteArray} (hs : s.size ≤ 1000) (hb : by_ ≤ 1000) (hG : MaxL g w0 (FF w0 S0))
    (h1 : ∀ (s sep : ByteArray) (m : Int) (w : World), s.size < 4294967281 → w.cell? ⟨g, 0, none⟩ = some (.int .i64 m) → 1 ≤ sep.size → Calls P f #[.string s, .string sep] w fun e w' =>
      e = .returned (.slice (some ⟨w.heap.size, 0, none⟩) (Lib.countB s sep + 1) (Lib.countB s sep + 1)) ∧ w' = w.alloc (.cells ((Lib.splitB sep 0 (Lib.countB s sep) s).map Value.string).toArray t)) :
    Calls P f #[.string s, .string ⟨#[47]⟩] w0 (TriPost w0 S0 (fun r l => l = [ownA (kslice t by_ kstr) (cutB s) [r]])) := by
  obtain ⟨m, hm⟩ := hG.cell
  refine (h1 s ⟨#[47]⟩ m w0 (by omega) hm (by decide)).mono fun e w' ⟨he, hw⟩ => ?_
  have hl := Lib.splitB_all (⟨#[47]⟩ : ByteArray) (by decide) 0 _ s rfl
  have hc := splitB_cut s
  rw [hc] at hw hl
  rw [← hl] at he
  subst hw
  have h0 := (ws_nil w0 S0).new ((cutB s).map Value.string).toArray t 1 (cutB s).length (by simp)
  obtain ⟨S, hst, hbs, hf⟩ := h0
  have hlen : (cutB s).length ≤ 1001 := by
    have := cutL_len s.data.toList
    rw [str_len] at this
    unfold cutB
    rw [List.length_map]
    omega
  have hbig : (cutB s).length * by_ ≤ 1001 * 1000 := Nat.mul_le_mul hlen hb
  exact ⟨_, _, he, rfl, S, Star.one (c := ownA (kslice t by_ kstr) (cutB s) _) (lit_own (xs := cutB s) (by simpa using hst) rfl (fun x hx => by have := cutB_size hx; omega) (by omega) (by omega)), hbs, hf⟩
theorem join_con {P : Program} {f : FuncId} {t by_ : Nat} {w0 : World} {S0 : Bs} {xs : List ByteArray} {v : Value} (hx : (kslice t by_ kstr).ro w0 (FF w0 S0) xs [v]) (hok : ∀ s, s ∈ xs → nameFault s = 0) (hl : xs.length ≤ 6)
    (h0 : ∀ (a : Option Addr) (c : Nat) (sep : ByteArray) (w : World), Calls P f #[.slice a 0 c, .string sep] w fun e w' => e = .returned (.string ⟨#[]⟩) ∧ w' = w)
    (h1 : ∀ (bk o c : Nat) (xs : List ByteArray) (sep : ByteArray) (w : World), (∀ (j : Nat) x, xs[j]? = some x → w.cell? ⟨bk, o + j, none⟩ = some (.string x)) → bk < w.heap.size → xs.length ≤ 140737488355328 → xs.length ≤ c → (Lib.join (xs.map (·.data.toList)) sep.data.toList).length ≤ 140737488355328 →
      Calls P f #[.slice (some ⟨bk, o, none⟩) xs.length c, .string sep] w fun e w' => e = .returned (.string ⟨(Lib.join (xs.map (·.data.toList)) sep.data.toList).toArray⟩) ∧ Below w.heap.size w w') :
    Calls P f #[v, .string ⟨#[47]⟩] w0 (TriPost w0 S0 (fun r l => r = .string (bstr (Lib.join (xs.map (·.data.toList)) [47])) ∧ l = [])) := by
  obtain ⟨A, c, rfl, g1, g2, g3, g4⟩ := ro_form hx
  cases hxs : xs with
  | nil =>
    refine (h0 A c ⟨#[47]⟩ w0).mono fun e w' ⟨he, hw⟩ => ?_
    subst hw
    exact ⟨_, _, he, ⟨by simp [Lib.join, bstr], rfl⟩, ws_nil _ _⟩
  | cons y r =>
    rw [← hxs]
    obtain ⟨ad, rfl, hF, hc⟩ := g4 (by rw [hxs]; simp)
    have hcell : ∀ (j : Nat) x, xs[j]? = some x → w0.cell? (ad.add j) = some (.string x) := fun j x hx => by
      obtain ⟨ecs, ⟨rfl, -⟩, h⟩ := hc j x hx
      have := h 0 _ rfl
      simpa [kstr, kscalar] using this
    have h00 : w0.cell? ad = some (.string y) := by simpa [Addr.add] using hcell 0 y (by rw [hxs]; rfl)
    have e := cell_spot h00
    have hjl : (Lib.join (xs.map (·.data.toList)) [47]).length ≤ 140737488355328 := by
      have h2 := join_eq xs
      have h3 := joinB_size hok
      have h4 := congrArg ByteArray.size h2
      rw [ByteArray.size_append] at h4
      have h5 : (bstr (Lib.join (xs.map (·.data.toList)) [47])).size = (Lib.join (xs.map (·.data.toList)) [47]).length := by simp [bstr, ByteArray.size]
      omega
    have hlt : ad.block < w0.heap.size := hF.1
    have key := h1 ad.block ad.off c xs ⟨#[47]⟩ w0 (fun j x hx => by
      have := hcell j x hx
      rw [e] at this
      unfold Addr.add at this
      split at this
      · rename_i h; subst h; simpa using this
      · simpa using this) hlt (by omega) g1 hjl
    rw [e]
    refine key.mono fun e' w' ⟨he, hw⟩ => ⟨_, _, he, ⟨rfl, rfl⟩, fun _ => False, trivial, fun _ h => h.elim, Fr.of_below hw _⟩
end Go.Proofs.YticaddophhggoaaGreat
/- What is proved: one element of a slice of one's own, taken out and put back; a part of a slice of one's own, read; a row's cells as a slice of structs. No condition. -/
namespace Go.Proofs.YticaddophhggoaaGreat
open Go Go.RowKit
set_option linter.unusedVariables false
set_option linter.unusedSimpArgs false
theorem seqA_at {α : Type} {K : Kd α} : ∀ {xs : List α} {css : List (List Value)} {j : Nat} {x : α} {c : List Value}, xs[j]? = some x → css[j]? = some c → seqA K xs css = seqA K (xs.take j) (css.take j) ++ ownA K x c :: seqA K (xs.drop (j + 1)) (css.drop (j + 1))
  | [], _, _, _, _, hx, _ => by simp at hx
  | _, [], _, _, _, _, hc => by simp at hc
  | y :: xs, d :: css, 0, x, c, hx, hc => by
    simp at hx hc
    subst hx; subst hc
    rfl
  | y :: xs, d :: css, j + 1, x, c, hx, hc => by
    have ih := seqA_at (K := K) (xs := xs) (css := css) (j := j) (x := x) (c := c) (by simpa using hx) (by simpa using hc)
    rw [seqA_cons, ih]
    rfl
theorem seq_split {α : Type} {K : Kd α} {xs : List α} {css : List (List Value)} {j : Nat} {x : α} {c : List Value} (hx : xs[j]? = some x) (hc : css[j]? = some c) (w : World) (S : Bs) (h : (seqC K xs css).p w S) : Star [ownA K x c, seqC K (xs.take j) (css.take j), seqC K (xs.drop (j + 1)) (css.drop (j + 1))] w S := by
  have h1 : Star (seqA K xs css) w S := h
  rw [seqA_at hx hc] at h1
  obtain ⟨A, B, hA, ⟨B1, B2, h2, h3, i1, i2, d1⟩, i, k, d⟩ := h1.split
  exact ⟨B1, fun b => A b ∨ B2 b, h2, ⟨A, B2, hA, Star.one (c := seqC K _ _) h3, fun _ h => .inl h, fun _ h => .inr h, fun b ha hb => d b ha (i2 b hb)⟩, fun b hb => k b (i1 b hb), fun b hb => hb.elim (i b) (fun h => k b (i2 b h)), fun b hb hb2 => hb2.elim (fun h => d b h (i1 b hb)) (d1 b hb)⟩
theorem seq_join {α : Type} {K : Kd α} {xs : List α} {css : List (List Value)} {j : Nat} {x : α} {c : List Value} (hx : xs[j]? = some x) (hc : css[j]? = some c) (w : World) (S : Bs) (h : Star [ownA K x c, seqC K (xs.take j) (css.take j), seqC K (xs.drop (j + 1)) (css.drop (j + 1))] w S) : (seqC K xs css).p w S := by
  obtain ⟨B1, C, h2, ⟨A, B2, hA, h3, i1, i2, d1⟩, i, k, d⟩ := h
  show Star (seqA K xs css) w S
  rw [seqA_at hx hc]
  have h3' : Star (seqA K (xs.drop (j + 1)) (css.drop (j + 1))) w B2 := Star.head (c := seqC K _ _) h3
  exact Star.app hA ⟨B1, B2, h2, h3', fun _ h => .inl h, fun _ h => .inr h, fun b hb hb2 => d b hb (i2 b hb2)⟩ (S2 := fun b => B1 b ∨ B2 b) (fun b hb => k b (i1 b hb)) (fun b hb => hb.elim (i b) (fun h => k b (i2 b h))) (fun b ha hb => hb.elim (fun h => d b h (i1 b ha)) (d1 b ha))
theorem css_same {css : List (List Value)} {j : Nat} {c : List Value} (h : css[j]? = some c) : css = css.set j c := by
  obtain ⟨hj, rfl⟩ := List.getElem?_eq_some_iff.1 h
  exact (List.set_getElem_self hj).symm
theorem own_unfocus {α : Type} {K : Kd α} {e by_ : Nat} {xs : List α} {css css' : List (List Value)} {j : Nat} {x : α} {c : List Value} {v : Value} (hl : css.length = xs.length) (hj : j < xs.length) (he : css' = css.set j c) (w : World) (S : Bs)
    (h : Star [ownA (kslice e by_ (kraw K.sz K.pos)) css' [v], ownA K x c, seqC K (xs.take j) (css.take j), seqC K (xs.drop (j + 1)) (css.drop (j + 1))] w S) : (ownA (kslice e by_ K) (xs.set j x) [v]).p w S := by
  subst he
  obtain ⟨A, B, hA, hB, i, k, d⟩ := h
  refine raw_own (xs := xs.set j x) (css := css.set j c) (by rw [List.length_set, List.length_set]; exact hl) w S ⟨A, B, hA, Star.one (c := seqC K _ _) (seq_join (j := j) (x := x) (c := c) (by rw [List.getElem?_set_self hj]) (by rw [List.getElem?_set_self (by omega)]) w B ?_), i, k, d⟩
  rw [List.take_set_of_le (Nat.le_refl j), List.take_set_of_le (Nat.le_refl j), List.drop_set_of_lt (Nat.lt_succ_self j), List.drop_set_of_lt (Nat.lt_succ_self j)]
  exact hB
theorem own_unfocus0 {α : Type} {K : Kd α} {e by_ : Nat} {xs : List α} {css : List (List Value)} {j : Nat} {x : α} {c : List Value} {v : Value} (hl : css.length = xs.length) (hx : xs[j]? = some x) (hc : css[j]? = some c) (w : World) (S : Bs)
    (h : Star [ownA (kslice e by_ (kraw K.sz K.pos)) css [v], ownA K x c, seqC K (xs.take j) (css.take j), seqC K (xs.drop (j + 1)) (css.drop (j + 1))] w S) : (ownA (kslice e by_ K) xs [v]).p w S := by
  obtain ⟨A, B, hA, hB, i, k, d⟩ := h
  exact raw_own hl w S ⟨A, B, hA, Star.one (c := seqC K _ _) (seq_join hx hc w B hB), i, k, d⟩
/-- A row of one element's cells, and what it owns. -/
theorem lit1_own {α : Type} {K : Kd α} {e by_ g sz : Nat} {x : α} {cs : List Value} (hsz : K.sz = sz) (hl : cs.length = sz) (hb : by_ ≤ 140737488355328) (w : World) (S : Bs) (h : Star [rowA g e sz 1 cs, ownA K x cs] w S) : (ownA (kslice e by_ K) [x] [.slice (some ⟨g, 0, none⟩) 1 1]).p w S := by
  subst hsz
  obtain ⟨A, B, hA, hB, i, k, d⟩ := h
  exact .inr ⟨g, 1, [cs], rfl, Nat.le_refl _, by omega, by simpa using hb, rfl, A, B, by simpa using hA, ⟨B, fun _ => False, Star.head (c := ownA K x cs) hB, trivial, fun _ h => h, fun _ h => h.elim, fun _ _ h => h⟩, i, k, d⟩
theorem Tr.ptrpre {w0 : World} {S0 : Bs} {l' : List Asn} {α : Type} {K : Kd α} {w : World} {S1 : Bs} {lr : List Asn} {g e sz c : Nat} {ecs cs : List Value} {x : α} (tr : Tr w0 S0 w S1 lr) (tk : Take lr (rowA g e sz c ecs) l') (hr : K.ro w (FF w S1) x cs) (hs : ∀ (i : Nat) (u : Value), cs[i]? = some u → ecs[i]? = some u) : PtrRo K w (FF w S1) ⟨g, 0, none⟩ x := by
  obtain ⟨S2, hst, hsub⟩ := tr.all
  have h := (hst.take tk).head
  refine ⟨cs, hsub _ h.1, hr, fun i u hu => ?_⟩
  rw [add_plain']
  exact row_cell h (hs i u hu)
theorem Tr.elw {w0 : World} {S0 : Bs} {α : Type} {K : Kd α} {w : World} {S1 : Bs} {lr : List Asn} {B : Addr} {ecs : List Value} {x : α} (tr : Tr w0 S0 w S1 lr) (hF : FF w0 S0 B.block) (hc : ∀ (i : Nat) (u : Value), ecs[i]? = some u → w0.cell? (B.add i) = some u) (hr : K.ro w (FF w S1) x ecs) : PtrRo K w (FF w S1) B x :=
  ⟨ecs, (tr.wide _ hF).1, hr, fun i u hu => (cell_loc (by rw [add_block]; exact (tr.wide _ hF).2)).trans (hc i u hu)⟩
section
variable {P : Program} {T : Slots} {Wd : World → Prop} {o : Oper}
theorem q_field {x : Operand} {s f : Nat} {v u : Value} (ho : o.op = .field s x f) (hx : Val T x v) (hs : ∀ w, (Instr.field s v f).run P w = .ok u w) : Quiet P o T Wd u := fun a w ha _ => by
  simp only [execOp, ho, hx a ha]; simp [hs w]
end
end Go.Proofs.YticaddophhggoaaGreat
/- What is proved: new trees, reading files, dropping them, in plain Lean. No condition. -/
namespace Go.Proofs.YticaddophhggoaaGreat
open Go Go.RowKit
set_option linter.unusedVariables false
set_option linter.unusedSimpArgs false
/-! ### new -/
def padD (data : List (List UInt8)) : List (List UInt8) := data ++ List.replicate (20 - data.length) []
theorem pad_0 (data : List (List UInt8)) : data = data ++ List.replicate 0 [] := by simp
theorem pad_s {data : List (List UInt8)} {k : Nat} : (data ++ List.replicate k []) ++ [[]] = data ++ List.replicate (k + 1) [] := by rw [List.append_assoc, ← List.replicate_succ']
theorem pad_len {data : List (List UInt8)} {k : Nat} : (data ++ List.replicate k []).length = data.length + k := by simp
theorem pad_all {data : List (List UInt8)} {k : Nat} (h1 : k ≤ 20 - data.length) (h2 : ¬ ((data ++ List.replicate k []).length : Int) < 20) : data ++ List.replicate k [] = padD data := by
  rw [pad_len] at h2
  unfold padD
  rw [show k = 20 - data.length by omega]
abbrev newF (data : List (List UInt8)) : DFs := ⟨[⟨2, 0, 0, [], []⟩], padD data⟩
noncomputable def newR (data : List (List UInt8)) : RFs := if fsFault (newF data) = 0 then ⟨0, newF data⟩ else ⟨fsFault (newF data), ⟨[], []⟩⟩
theorem newR_f {data : List (List UInt8)} (h : ¬ fsFault (newF data) = 0) : newR data = ⟨fsFault (newF data), ⟨[], []⟩⟩ := if_neg h
theorem newR_0 {data : List (List UInt8)} (h : fsFault (newF data) = 0) : newR data = ⟨0, newF data⟩ := if_pos h
/-! ### reading -/
theorem blocks_in {xs : List DInode} (h : inodesFault xs = 0) (a : Int) : ∀ b, b ∈ blocksAt xs a → 0 ≤ b ∧ b ≤ 19 := by
  unfold blocksAt
  cases hx : xs[a.toNat]? with
  | none => intro b hb; cases hb
  | some x => exact (blocks_4 (inodes_all h x (List.mem_of_getElem? hx))).2
theorem blocks_le {xs : List DInode} (h : inodesFault xs = 0) (a : Int) : (blocksAt xs a).length ≤ 4 := by
  unfold blocksAt
  cases hx : xs[a.toNat]? with
  | none => simp
  | some x => exact (blocks_4 (inodes_all h x (List.mem_of_getElem? hx))).1
theorem fileB_len {f : DFs} (h : treeFault f = 0) (a : Int) : (fileB f a).length ≤ 32 := bytesTo_len _ (blocks_le (treeI h) a) (data_8 h)
theorem minI_comm (a b : Int) : minI a b = minI b a := by have := minI_spec a b; have := minI_spec b a; omega
def partB (L : List UInt8) (i n : Int) : List UInt8 := subL L (minI i L.length).toNat (minI L.length (minI i L.length + n)).toNat
noncomputable def readR (f : DFs) (a i n : Int) : RBytes := if bytesCode f a = 0 then if (0 ≤ i ∧ i ≤ 1000) ∧ (0 ≤ n ∧ n ≤ 100) then ⟨0, partB (fileB f a) i n⟩ else ⟨3, []⟩ else ⟨bytesCode f a, []⟩
theorem readR_f {f : DFs} {a i n : Int} (h : ¬ bytesCode f a = 0) : readR f a i n = ⟨bytesCode f a, []⟩ := if_neg h
theorem readR_3 {f : DFs} {a i n : Int} (h : bytesCode f a = 0) (h2 : ¬ ((0 ≤ i ∧ i ≤ 1000) ∧ (0 ≤ n ∧ n ≤ 100))) : readR f a i n = ⟨3, []⟩ := by unfold readR; rw [if_pos h, if_neg h2]
theorem readR_0 {f : DFs} {a i n : Int} (h : bytesCode f a = 0) (h2 : (0 ≤ i ∧ i ≤ 1000) ∧ (0 ≤ n ∧ n ≤ 100)) : readR f a i n = ⟨0, partB (fileB f a) i n⟩ := by unfold readR; rw [if_pos h, if_pos h2]
noncomputable abbrev readC (i n : Int) : Int := if (0 ≤ i ∧ i ≤ 1000) ∧ (0 ≤ n ∧ n ≤ 100) then 0 else 3
noncomputable def readB (f : DFs) (a i n : Int) : List UInt8 := if (0 ≤ i ∧ i ≤ 1000) ∧ (0 ≤ n ∧ n ≤ 100) then partB (fileB f a) i n else []
theorem readC_0 {i n : Int} (h : (0 ≤ i ∧ i ≤ 1000) ∧ (0 ≤ n ∧ n ≤ 100)) : readC i n = 0 := if_pos h
theorem readC_3 {i n : Int} (h : ¬ ((0 ≤ i ∧ i ≤ 1000) ∧ (0 ≤ n ∧ n ≤ 100))) : readC i n = 3 := if_neg h
theorem readB_0 {f : DFs} {a i n : Int} (h : (0 ≤ i ∧ i ≤ 1000) ∧ (0 ≤ n ∧ n ≤ 100)) : readB f a i n = partB (fileB f a) i n := if_pos h
theorem readB_3 {f : DFs} {a i n : Int} (h : ¬ ((0 ≤ i ∧ i ≤ 1000) ∧ (0 ≤ n ∧ n ≤ 100))) : readB f a i n = [] := if_neg h
theorem readR_ {f : DFs} {a i n : Int} (h : bytesCode f a = 0) : readR f a i n = ⟨readC i n, readB f a i n⟩ := by
  by_cases h2 : (0 ≤ i ∧ i ≤ 1000) ∧ (0 ≤ n ∧ n ≤ 100)
  · rw [readR_0 h h2, readC_0 h2, readB_0 h2]
  · rw [readR_3 h h2, readC_3 h2, readB_3 h2]
theorem bytesR_code {f : DFs} {a : Int} : (bytesR f a).code = bytesCode f a := by
  unfold bytesR; split
  · rename_i h; exact h.symm
  · rfl
theorem bytesR_code0 {f : DFs} {a : Int} (h : (bytesR f a).code = 0) : bytesCode f a = 0 := by rwa [bytesR_code] at h
theorem bytesR_codeN {f : DFs} {a : Int} (h : ¬ (bytesR f a).code = 0) : ¬ bytesCode f a = 0 := by rwa [bytesR_code] at h
theorem bytesR_bytes {f : DFs} {a : Int} (h : bytesCode f a = 0) : (bytesR f a).bytes = fileB f a := by rw [bytesR_0 h]
theorem readR_b {f : DFs} {a i n : Int} (h : ¬ bytesCode f a = 0) : readR f a i n = bytesR f a := by rw [readR_f h, bytesR_f h]
/-! ### dropping -/
def dropB (data : List (List UInt8)) (bs : List Int) : Nat → List (List UInt8)
  | 0 => data
  | k + 1 => match bs[k]? with | some b => (dropB data bs k).set b.toNat [] | none => dropB data bs k
theorem dropB_s {data : List (List UInt8)} {bs : List Int} {k : Nat} {b : Int} (h : bs[k]? = some b) : (dropB data bs k).set b.toNat [] = dropB data bs (k + 1) := by simp only [dropB, h]
theorem dropB_len {data : List (List UInt8)} {bs : List Int} : ∀ k, (dropB data bs k).length = data.length
  | 0 => rfl
  | k + 1 => by
    simp only [dropB]
    split
    · rw [List.length_set]; exact dropB_len k
    · exact dropB_len k
abbrev dropAll (f : DFs) (a : Int) : List (List UInt8) := dropB f.data (blocksAt f.inodes a) (blocksAt f.inodes a).length
abbrev dropF (f : DFs) (a : Int) : DFs := ⟨f.inodes.set a.toNat ⟨0, 0, 0, [], []⟩, dropAll f a⟩
noncomputable def dropR (f : DFs) (a : Int) : RFs := if bytesCode f a = 0 then ⟨0, dropF f a⟩ else ⟨bytesCode f a, ⟨[], []⟩⟩
theorem dropR_f {f : DFs} {a : Int} (h : ¬ bytesCode f a = 0) : dropR f a = ⟨bytesCode f a, ⟨[], []⟩⟩ := if_neg h
theorem dropR_0 {f : DFs} {a : Int} (h : bytesCode f a = 0) : dropR f a = ⟨0, dropF f a⟩ := if_pos h
end Go.Proofs.YticaddophhggoaaGreat
/- What is proved: names taken out of a directory, in plain Lean. No condition. -/
namespace Go.Proofs.YticaddophhggoaaGreat
open Go Go.RowKit
set_option linter.unusedVariables false
set_option linter.unusedSimpArgs false
/-! ### what is not wanted is left out, in place -/
abbrev notP {α : Type} (p : α → Bool) : α → Bool := fun e => !p e
theorem idxF_at {α : Type} {p : α → Bool} {xs : List α} (h : ¬ idxF p xs = -1) : ∃ i : Nat, idxF p xs = (i : Int) ∧ i < xs.length ∧ (xs.take (i + 1)).filter (notP p) = xs.take i := by
  unfold idxF at h ⊢
  cases hf : xs.findIdx? p with
  | none => rw [hf] at h; exact absurd rfl h
  | some i =>
    obtain ⟨hi, hp, hn⟩ := List.findIdx?_eq_some_iff_getElem.1 hf
    refine ⟨i, rfl, hi, ?_⟩
    rw [← take_snoc (List.getElem?_eq_getElem hi), List.filter_append]
    have h1 : [xs[i]].filter (notP p) = [] := by simp [notP, hp]
    rw [h1, List.append_nil, List.filter_eq_self]
    intro x hx
    obtain ⟨j, hj, rfl⟩ := List.mem_take_iff_getElem.1 hx
    have := hn j (by omega)
    simpa [notP] using this
theorem idxF_in {α : Type} {p : α → Bool} {xs : List α} (h : ¬ idxF p xs = -1) : 0 < xs.length := by
  obtain ⟨i, _, h2, _⟩ := idxF_at h
  omega
theorem filter_id {α : Type} {p : α → Bool} {xs : List α} (h : idxF p xs = -1) : xs = xs.filter (notP p) := by
  unfold idxF at h
  cases hf : xs.findIdx? p with
  | some i => rw [hf] at h; simp only at h; omega
  | none =>
    refine (List.filter_eq_self.2 fun x hx => ?_).symm
    have := List.findIdx?_eq_none_iff.1 hf x hx
    simp [notP, this]
structure Left {α : Type} (p : α → Bool) (xs : List α) (j i : Nat) (L : List α) : Prop where
  len : L.length = xs.length
  le : i ≤ j
  head : L.take i = (xs.take j).filter (notP p)
  tail : L.drop j = xs.drop j
theorem left_init {α : Type} {p : α → Bool} {xs : List α} {i : Nat} (h : (xs.take (i + 1)).filter (notP p) = xs.take i) : Left p xs (i + 1) i xs := ⟨rfl, by omega, h.symm, rfl⟩
theorem left_get {α : Type} {p : α → Bool} {xs L : List α} {i j : Nat} {y : α} (h : Left p xs j i L) (hy : L[j]? = some y) : xs[j]? = some y := by
  have := congrArg (fun l => l[0]?) h.tail
  simpa [hy] using this.symm
theorem left_keep {α : Type} {p : α → Bool} {xs L : List α} {i j : Nat} {y : α} (h : Left p xs j i L) (hy : L[j]? = some y) (hp : p y = false) (hi : i < j) : Left p xs (j + 1) (i + 1) (L.set i y) := by
  have hx := left_get h hy
  have hl := h.len
  have hj := (List.getElem?_eq_some_iff.1 hy).1
  refine ⟨by rw [List.length_set]; exact hl, by omega, ?_, ?_⟩
  · have : (L.set i y).take (i + 1) = L.take i ++ [y] := by
      rw [List.take_add_one, List.getElem?_set_self (by omega), List.take_set_of_le (Nat.le_refl i)]; rfl
    rw [this, ← take_snoc hx, List.filter_append, ← h.head]
    simp [notP, hp]
  · rw [List.drop_set_of_lt (by omega)]
    have := congrArg (List.drop 1) h.tail
    simpa [List.drop_drop] using this
theorem left_out {α : Type} {p : α → Bool} {xs L : List α} {i j : Nat} {y : α} (h : Left p xs j i L) (hy : L[j]? = some y) (hp : p y = true) : Left p xs (j + 1) i L := by
  have hx := left_get h hy
  refine ⟨h.len, by have := h.le; omega, ?_, ?_⟩
  · rw [← take_snoc hx, List.filter_append, ← h.head]
    simp [notP, hp]
  · have := congrArg (List.drop 1) h.tail
    simpa [List.drop_drop] using this
theorem left_end {α : Type} {p : α → Bool} {xs L : List α} {i j : Nat} (h : Left p xs j i L) (hj : xs.length ≤ j) : L.take i = xs.filter (notP p) := by
  rw [h.head, List.take_of_length_le hj]
/-! ### one field of an inode -/
def withE (xs : List DInode) (a : Int) (es : List DEnt) : List DInode := match xs[a.toNat]? with | some y => xs.set a.toNat ⟨y.kind, y.links, y.size, y.blocks, es⟩ | none => xs
def withL (xs : List DInode) (a : Int) (n : Int) : List DInode := match xs[a.toNat]? with | some y => xs.set a.toNat ⟨y.kind, n, y.size, y.blocks, y.ents⟩ | none => xs
def linksAt (xs : List DInode) (a : Int) : Int := match xs[a.toNat]? with | some x => x.links | none => 0
theorem withE_at {xs : List DInode} {a : Int} {es : List DEnt} {j : Nat} {y : DInode} (h : xs[j]? = some y) (hj : a = (j : Int)) : xs.set j ⟨y.kind, y.links, y.size, y.blocks, es⟩ = withE xs a es := by
  subst hj; unfold withE; rw [Int.toNat_natCast, h]
theorem withL_at {xs : List DInode} {a n : Int} {j : Nat} {y : DInode} (h : xs[j]? = some y) (hj : a = (j : Int)) : xs.set j ⟨y.kind, n, y.size, y.blocks, y.ents⟩ = withL xs a n := by
  subst hj; unfold withL; rw [Int.toNat_natCast, h]
theorem links_at {xs : List DInode} {a : Int} {j : Nat} {x : DInode} (hx : xs[j]? = some x) (h : a = (j : Int)) : linksAt xs a = x.links := by
  subst h; unfold linksAt; rw [Int.toNat_natCast, hx]
theorem withE_len {xs : List DInode} {a : Int} {es : List DEnt} : (withE xs a es).length = xs.length := by
  unfold withE; split <;> simp
theorem withL_len {xs : List DInode} {a n : Int} : (withL xs a n).length = xs.length := by
  unfold withL; split <;> simp
/-- What holds of all inodes but for a field: it is the same. -/
theorem withE_get {xs : List DInode} {a : Int} {es : List DEnt} (j : Nat) : ∀ y, (withE xs a es)[j]? = some y → ∃ x, xs[j]? = some x ∧ y = ⟨x.kind, x.links, x.size, x.blocks, if j = a.toNat then es else x.ents⟩ := fun y hy => by
  unfold withE at hy
  cases h : xs[a.toNat]? with
  | none =>
    rw [h] at hy
    refine ⟨y, hy, ?_⟩
    rw [if_neg (fun e => by subst e; rw [h] at hy; cases hy)]
  | some x =>
    rw [h] at hy
    simp only at hy
    rw [List.getElem?_set] at hy
    split at hy
    · rename_i e
      split at hy
      · obtain rfl := Option.some.inj hy
        refine ⟨x, by rw [← e]; exact h, by rw [if_pos e.symm]⟩
      · cases hy
    · rename_i e
      exact ⟨y, hy, by rw [if_neg (fun e2 => e e2.symm)]⟩
theorem withL_get {xs : List DInode} {a n : Int} (j : Nat) : ∀ y, (withL xs a n)[j]? = some y → ∃ x, xs[j]? = some x ∧ y = ⟨x.kind, if j = a.toNat then n else x.links, x.size, x.blocks, x.ents⟩ := fun y hy => by
  unfold withL at hy
  cases h : xs[a.toNat]? with
  | none =>
    rw [h] at hy
    refine ⟨y, hy, ?_⟩
    rw [if_neg (fun e => by subst e; rw [h] at hy; cases hy)]
  | some x =>
    rw [h] at hy
    simp only at hy
    rw [List.getElem?_set] at hy
    split at hy
    · rename_i e
      split at hy
      · obtain rfl := Option.some.inj hy
        refine ⟨x, by rw [← e]; exact h, by rw [if_pos e.symm]⟩
      · cases hy
    · rename_i e
      exact ⟨y, hy, by rw [if_neg (fun e2 => e e2.symm)]⟩
theorem withE_kind {xs : List DInode} {a k : Int} {es : List DEnt} : kindAt (withE xs a es) k = kindAt xs k := by
  unfold kindAt
  cases h : (withE xs a es)[k.toNat]? with
  | none =>
    rw [List.getElem?_eq_none_iff, withE_len] at h
    rw [List.getElem?_eq_none h]
  | some y =>
    obtain ⟨x, hx, rfl⟩ := withE_get _ y h
    rw [hx]
theorem withE_links {xs : List DInode} {a k : Int} {es : List DEnt} : linksAt (withE xs a es) k = linksAt xs k := by
  unfold linksAt
  cases h : (withE xs a es)[k.toNat]? with
  | none =>
    rw [List.getElem?_eq_none_iff, withE_len] at h
    rw [List.getElem?_eq_none h]
  | some y =>
    obtain ⟨x, hx, rfl⟩ := withE_get _ y h
    rw [hx]
theorem withE_blocks {xs : List DInode} {a k : Int} {es : List DEnt} : blocksAt (withE xs a es) k = blocksAt xs k := by
  unfold blocksAt
  cases h : (withE xs a es)[k.toNat]? with
  | none =>
    rw [List.getElem?_eq_none_iff, withE_len] at h
    rw [List.getElem?_eq_none h]
  | some y =>
    obtain ⟨x, hx, rfl⟩ := withE_get _ y h
    rw [hx]
theorem withL_blocks {xs : List DInode} {a k n : Int} : blocksAt (withL xs a n) k = blocksAt xs k := by
  unfold blocksAt
  cases h : (withL xs a n)[k.toNat]? with
  | none =>
    rw [List.getElem?_eq_none_iff, withL_len] at h
    rw [List.getElem?_eq_none h]
  | some y =>
    obtain ⟨x, hx, rfl⟩ := withL_get _ y h
    rw [hx]
theorem sumF_set_eq {α : Type} (f : α → Nat) : ∀ {xs : List α} {i : Nat} {x y : α}, xs[i]? = some x → sumF f (xs.set i y) + f x = sumF f xs + f y
  | [], _, _, _, h => by simp at h
  | z :: xs, 0, x, y, h => by simp at h; subst h; simp only [List.set_cons_zero, sumF]; omega
  | z :: xs, i + 1, x, y, h => by
    have := sumF_set_eq f (xs := xs) (i := i) (x := x) (y := y) (by simpa using h)
    simp only [List.set_cons_succ, sumF]; omega
theorem withL_of {xs : List DInode} {a k n : Int} : linksOf (withL xs a n) k = linksOf xs k := by
  unfold withL
  split
  · rename_i y hy
    have := sumF_set_eq (linksIn k) (y := ⟨y.kind, n, y.size, y.blocks, y.ents⟩) hy
    unfold linksOf
    have e : linksIn k ⟨y.kind, n, y.size, y.blocks, y.ents⟩ = linksIn k y := rfl
    omega
  · rfl
theorem sumF_sub {α : Type} (f : α → Nat) {xs ys : List α} (h : ys.Sublist xs) : sumF f ys ≤ sumF f xs := by
  induction h with
  | slnil => exact Nat.le_refl _
  | cons x _ ih => simp only [sumF]; omega
  | cons_cons x _ ih => simp only [sumF]; omega
theorem withE_of {xs : List DInode} {a k : Int} {es : List DEnt} (h : es.Sublist (entsAt xs a)) : linksOf (withE xs a es) k ≤ linksOf xs k := by
  unfold withE
  split
  · rename_i y hy
    have h1 := sumF_set_eq (linksIn k) (y := ⟨y.kind, y.links, y.size, y.blocks, es⟩) hy
    have e : entsAt xs a = y.ents := by unfold entsAt; rw [hy]
    rw [e] at h
    have h2 : linksIn k ⟨y.kind, y.links, y.size, y.blocks, es⟩ ≤ linksIn k y := sumF_sub _ h
    unfold linksOf
    omega
  · exact Nat.le_refl _
/-! ### names are told apart -/
theorem bl_trans : ∀ {x y z : List UInt8}, Op.bytesLess x y = true → Op.bytesLess y z = true → Op.bytesLess x z = true
  | x, [], _, h, _ => by cases x <;> simp [Op.bytesLess] at h
  | _, _ :: _, [], _, h => by simp [Op.bytesLess] at h
  | [], _ :: _, _ :: _, _, _ => rfl
  | a :: x, b :: y, c :: z, h1, h2 => by
    simp only [Op.bytesLess, Bool.or_eq_true, decide_eq_true_eq, Bool.and_eq_true, beq_iff_eq] at *
    rcases h1 with h1 | ⟨rfl, h1⟩
    · rcases h2 with h2 | ⟨rfl, h2⟩
      · exact .inl (UInt8.lt_trans h1 h2)
      · exact .inl h1
    · rcases h2 with h2 | ⟨rfl, h2⟩
      · exact .inl h2
      · exact .inr ⟨rfl, bl_trans h1 h2⟩
theorem bl_irrefl : ∀ x : List UInt8, Op.bytesLess x x = false
  | [] => rfl
  | a :: x => by simp [Op.bytesLess, bl_irrefl x]
theorem sLt_trans {s t u : ByteArray} (h1 : sLt s t = true) (h2 : sLt t u = true) : sLt s u = true := bl_trans h1 h2
theorem sLt_irrefl (s : ByteArray) : sLt s s = false := bl_irrefl _

theorem firstN_all {f : Nat → Int} {n : Nat} (h : firstN f n = 0) : ∀ j, j < n → f j = 0 := fun j => by
  induction j using Nat.strongRecOn with
  | _ j ih =>
    intro hj
    apply Classical.byContradiction
    intro hn
    exact hn ((firstN_some hj hn (fun i hi => ih i hi (by omega))).symm.trans h)
theorem nodup_names {x : DInode} (h : dirFault x = 0) : ∀ (i j : Nat) (e g : DEnt), i < j → x.ents[i]? = some e → x.ents[j]? = some g → sLt e.name g.name = true := by
  unfold dirFault at h
  split at h
  · exact absurd h (by decide)
  · have h1 : ∀ j, j < x.ents.length → entAt x.ents j = 0 := firstN_all h
    intro i j e g hij he hg
    induction j generalizing g with
    | zero => omega
    | succ j ih =>
      obtain ⟨p, hp⟩ := get_ex (xs := x.ents) (j := j) (by have := (List.getElem?_eq_some_iff.1 hg).1; omega)
      have h2 := h1 (j + 1) (List.getElem?_eq_some_iff.1 hg).1
      have h3 : sLt p.name g.name = true := by
        unfold entAt at h2
        rw [hg] at h2
        unfold entOk at h2
        simp only at h2
        split at h2
        · split at h2
          · rw [if_neg (by omega), show j + 1 - 1 = j by omega, hp] at h2
            simp only at h2
            split at h2
            · assumption
            · exact absurd h2 (by decide)
          · exact absurd h2 (by decide)
        · contradiction
      by_cases hj : i = j
      · subst hj
        rw [he] at hp
        obtain rfl := Option.some.inj hp
        exact h3
      · exact sLt_trans (ih p (by omega) hp) h3
theorem take_one {es : List DEnt} {s : ByteArray} {i : Nat} (hs : ∀ (i j : Nat) (e g : DEnt), i < j → es[i]? = some e → es[j]? = some g → sLt e.name g.name = true) (hi : idxF (nameP s) es = (i : Int)) : es.filter (notP (nameP s)) = es.eraseIdx i := by
  have h : es.findIdx? (nameP s) = some i := by
    unfold idxF at hi
    cases hf : es.findIdx? (nameP s) with
    | none => rw [hf] at hi; simp only at hi; omega
    | some k => rw [hf] at hi; simp only at hi; rw [show k = i by omega]
  obtain ⟨hl, hp, hn⟩ := List.findIdx?_eq_some_iff_getElem.1 h
  have hp' : es[i].name = s := of_decide_eq_true hp
  rw [List.eraseIdx_eq_take_drop_succ]
  conv => lhs; rw [← List.take_append_drop (i + 1) es, List.filter_append]
  congr 1
  · rw [← take_snoc (List.getElem?_eq_getElem hl), List.filter_append]
    have h1 : [es[i]].filter (notP (nameP s)) = [] := by simp [notP, hp']
    rw [h1, List.append_nil, List.filter_eq_self]
    intro x hx
    obtain ⟨j, hj, rfl⟩ := List.mem_take_iff_getElem.1 hx
    have := hn j (by omega)
    simpa [notP] using this
  · rw [List.filter_eq_self]
    intro x hx
    obtain ⟨j, hj⟩ := List.mem_iff_getElem?.1 hx
    rw [List.getElem?_drop] at hj
    have h2 := hs i (i + 1 + j) _ _ (by omega) (List.getElem?_eq_getElem hl) hj
    have h3 : ¬ x.name = s := fun e => by
      rw [hp', e, sLt_irrefl] at h2
      exact absurd h2 (by decide)
    simp [notP, h3]
def inoAt (es : List DEnt) (i : Nat) : Int := match es[i]? with | some e => e.ino | none => -1
theorem inoAt_of {es : List DEnt} {i : Nat} {e : DEnt} (h : es[i]? = some e) : inoAt es i = e.ino := by unfold inoAt; rw [h]
/-! ### the whole -/
abbrev takeF (f : DFs) (a : Int) (es : List DEnt) : DFs := ⟨withE f.inodes a es, f.data⟩
def lessF (f : DFs) (k : Int) : DFs := if kindAt f.inodes k = 1 then if 1 < linksAt f.inodes k then ⟨withL f.inodes k (linksAt f.inodes k - 1), f.data⟩ else if linksOf f.inodes k = 0 then dropF f k else f else f
theorem lessF_k {f : DFs} {k : Int} (h : ¬ kindAt f.inodes k = 1) : lessF f k = f := if_neg h
theorem lessF_l {f : DFs} {k : Int} (h : kindAt f.inodes k = 1) (h2 : 1 < linksAt f.inodes k) : lessF f k = ⟨withL f.inodes k (linksAt f.inodes k - 1), f.data⟩ := by unfold lessF; rw [if_pos h, if_pos h2]
theorem lessF_d {f : DFs} {k : Int} (h : kindAt f.inodes k = 1) (h2 : ¬ 1 < linksAt f.inodes k) (h3 : linksOf f.inodes k = 0) : lessF f k = dropF f k := by unfold lessF; rw [if_pos h, if_neg h2, if_pos h3]
theorem lessF_s {f : DFs} {k : Int} (h : kindAt f.inodes k = 1) (h2 : ¬ 1 < linksAt f.inodes k) (h3 : ¬ linksOf f.inodes k = 0) : lessF f k = f := by unfold lessF; rw [if_pos h, if_neg h2, if_neg h3]
theorem dropF_withL {f : DFs} {k n : Int} : dropF ⟨withL f.inodes k n, f.data⟩ k = dropF f k := by
  have h : (withL f.inodes k n).set k.toNat ⟨0, 0, 0, [], []⟩ = f.inodes.set k.toNat ⟨0, 0, 0, [], []⟩ := by
    unfold withL
    split
    · rw [List.set_set]
    · rfl
  simp only [dropF, dropAll, h, withL_blocks]
theorem withL_same {xs : List DInode} {k : Int} : withL xs k (linksAt xs k) = xs := by
  unfold withL linksAt
  cases h : xs[k.toNat]? with
  | none => rfl
  | some y =>
    obtain ⟨hk, rfl⟩ := List.getElem?_eq_some_iff.1 h
    exact List.set_getElem_self hk
theorem withL_withL {xs : List DInode} {k m n : Int} : withL (withL xs k m) k n = withL xs k n := by
  unfold withL
  cases h : xs[k.toNat]? with
  | none => simp only [h]
  | some y =>
    have hk := (List.getElem?_eq_some_iff.1 h).1
    simp only [List.getElem?_set_self hk, List.set_set]
abbrev outE (f : DFs) (a : Int) (s : ByteArray) : List DEnt := (entsAt f.inodes a).eraseIdx (idxF (nameP s) (entsAt f.inodes a)).toNat
noncomputable def dropNameR (f : DFs) (a : Int) (s : ByteArray) : RFs := if nameCode f a s = 0 then if lookI (entsAt f.inodes a) s < 0 then ⟨4, ⟨[], []⟩⟩ else ⟨0, lessF (takeF f a (outE f a s)) (lookI (entsAt f.inodes a) s)⟩ else ⟨nameCode f a s, ⟨[], []⟩⟩
theorem dropNameR_f {f : DFs} {a : Int} {s : ByteArray} (h : ¬ nameCode f a s = 0) : dropNameR f a s = ⟨nameCode f a s, ⟨[], []⟩⟩ := if_neg h
theorem dropNameR_4 {f : DFs} {a : Int} {s : ByteArray} (h : nameCode f a s = 0) (h2 : lookI (entsAt f.inodes a) s < 0) : dropNameR f a s = ⟨4, ⟨[], []⟩⟩ := by unfold dropNameR; rw [if_pos h, if_pos h2]
theorem dropNameR_0 {f : DFs} {a : Int} {s : ByteArray} (h : nameCode f a s = 0) (h2 : ¬ lookI (entsAt f.inodes a) s < 0) : dropNameR f a s = ⟨0, lessF (takeF f a (outE f a s)) (lookI (entsAt f.inodes a) s)⟩ := by unfold dropNameR; rw [if_pos h, if_neg h2]
theorem look_ino {es : List DEnt} {s : ByteArray} {ix : Nat} (h : idxF (nameP s) es = (ix : Int)) : lookI es s = inoAt es ix := by
  have hr := idxF_rng (nameP s) es
  obtain ⟨e, he⟩ := get_ex (xs := es) (j := ix) (by omega)
  rw [inoAt_of he]
  exact look_at (by omega) (by rw [h, Int.toNat_natCast]; exact he)
theorem dropNameR_i {f : DFs} {a : Int} {s : ByteArray} {ix : Nat} (h : nameCode f a s = 0) (hn : 0 ≤ inoAt (entsAt f.inodes a) ix) (hi : idxF (nameP s) (entsAt f.inodes a) = (ix : Int)) : dropNameR f a s = ⟨0, lessF (takeF f a ((entsAt f.inodes a).eraseIdx ix)) (inoAt (entsAt f.inodes a) ix)⟩ := by
  have h1 := look_ino hi
  rw [dropNameR_0 h (by omega), outE, h1, hi, Int.toNat_natCast]
theorem ents_nodup {f : DFs} {a : Int} (h : dirCode f a = 0) : ∀ (i j : Nat) (e g : DEnt), i < j → (entsAt f.inodes a)[i]? = some e → (entsAt f.inodes a)[j]? = some g → sLt e.name g.name = true := by
  obtain ⟨ht, ⟨h1, h2⟩, hk⟩ := dirOk h
  obtain ⟨x, hx⟩ := get_ex (xs := f.inodes) (j := a.toNat) (by omega)
  rw [ents_at hx (by omega)]
  rw [kind_at hx (by omega)] at hk
  have hf := inodes_all (treeI ht) x (List.mem_of_getElem? hx)
  refine nodup_names ?_
  unfold inodeFault at hf
  rw [hk] at hf
  simp only at hf
  split at hf
  · split at hf
    · exact absurd hf (by decide)
    · simpa using hf
  · exact absurd hf (by decide)
theorem look_idx {es : List DEnt} {s : ByteArray} (h : ¬ lookI es s < 0) : ∃ ix : Nat, idxF (nameP s) es = (ix : Int) := by
  by_cases h2 : idxF (nameP s) es < 0
  · rw [look_none h2] at h; exact absurd (by decide) h
  · exact ⟨(idxF (nameP s) es).toNat, by omega⟩
theorem dropNameR_l {f : DFs} {a : Int} {s : ByteArray} (h : nameCode f a s = 0) (h2 : ¬ lookI (entsAt f.inodes a) s < 0) : dropNameR f a s = ⟨0, lessF (takeF f a ((entsAt f.inodes a).filter (notP (nameP s)))) (lookI (entsAt f.inodes a) s)⟩ := by
  obtain ⟨ix, hi⟩ := look_idx h2
  rw [dropNameR_0 h h2, take_one (ents_nodup (nameOk h)) hi, outE, hi, Int.toNat_natCast]
theorem dropNameR_n {f : DFs} {a : Int} {s : ByteArray} (h : nameCode f a s = 0) (h2 : idxF (nameP s) (entsAt f.inodes a) < 0) : dropNameR f a s = ⟨4, ⟨[], []⟩⟩ := dropNameR_4 h (by rw [look_none h2]; decide)
structure LessPre (f : DFs) (k : Int) : Prop where
  p : placeIn f.inodes.length k
  d : f.data.length = 20
  b : ∀ b, b ∈ blocksAt f.inodes k → 0 ≤ b ∧ b ≤ 19
  l : linksOf f.inodes k ≤ 60
  k : kindAt f.inodes k = 1 → 1 ≤ linksAt f.inodes k ∧ linksAt f.inodes k ≤ 60
theorem file_links {xs : List DInode} (h : inodesFault xs = 0) {k : Int} (hk : kindAt xs k = 1) : 1 ≤ linksAt xs k ∧ linksAt xs k ≤ 60 := by
  unfold kindAt at hk
  unfold linksAt
  cases hx : xs[k.toNat]? with
  | none => rw [hx] at hk; exact absurd hk (by decide)
  | some x =>
    rw [hx] at hk
    simp only at hk ⊢
    have hf := inodes_all h x (List.mem_of_getElem? hx)
    unfold inodeFault at hf
    rw [hk] at hf
    simp only at hf
    split at hf
    · split at hf
      · exact absurd hf (by decide)
      · rw [if_pos trivial] at hf
        unfold fileFault at hf
        split at hf
        · rename_i h1; exact h1.1
        · exact absurd hf (by decide)
    · exact absurd hf (by decide)
theorem less_pre {f : DFs} {a k : Int} {es : List DEnt} (ht : treeFault f = 0) (hs : es.Sublist (entsAt f.inodes a)) (hp : placeIn f.inodes.length k) : LessPre (takeF f a es) k where
  p := by simp only [takeF, withE_len]; exact hp
  d := by exact (data_20 ht : f.data.length = 20)
  b := by simp only [takeF, withE_blocks]; exact blocks_in (treeI ht) k
  l := Nat.le_trans (withE_of hs) (links_60 (treeI ht) k)
  k := by simp only [takeF, withE_kind, withE_links]; exact file_links (treeI ht)
theorem ent_place {f : DFs} (ht : treeFault f = 0) {a : Int} {i : Nat} {e : DEnt} (h : (entsAt f.inodes a)[i]? = some e) : placeIn f.inodes.length e.ino := by
  unfold entsAt at h
  cases hx : f.inodes[a.toNat]? with
  | none => rw [hx] at h; simp at h
  | some x =>
    rw [hx] at h
    simp only at h
    have h1 := ent_in (treeG ht _ x hx i e h)
    have h2 := ents_ok (inodes_all (treeI ht) x (List.mem_of_getElem? hx)) i e h
    exact ⟨h2.2.1, by omega⟩
theorem ino_place {f : DFs} (ht : treeFault f = 0) {a : Int} {i : Nat} (h : i < (entsAt f.inodes a).length) : placeIn f.inodes.length (inoAt (entsAt f.inodes a) i) := by
  obtain ⟨e, he⟩ := get_ex h
  rw [inoAt_of he]
  exact ent_place ht he
theorem look_place {f : DFs} (ht : treeFault f = 0) {a : Int} {s : ByteArray} (h : ¬ lookI (entsAt f.inodes a) s < 0) : placeIn f.inodes.length (lookI (entsAt f.inodes a) s) := by
  obtain ⟨ix, hi⟩ := look_idx h
  have hr := idxF_rng (nameP s) (entsAt f.inodes a)
  rw [look_ino hi]
  exact ino_place ht (by omega)
theorem withL_pre {f : DFs} {k n : Int} (h : LessPre f k) : placeIn (withL f.inodes k n).length k ∧ ∀ b, b ∈ blocksAt (withL f.inodes k n) k → 0 ≤ b ∧ b ≤ 19 := ⟨by rw [withL_len]; exact h.p, by rw [withL_blocks]; exact h.b⟩
end Go.Proofs.YticaddophhggoaaGreat
/- What is proved: a name put into a directory, in plain Lean. No condition. -/
namespace Go.Proofs.YticaddophhggoaaGreat
open Go Go.RowKit
set_option linter.unusedVariables false
set_option linter.unusedSimpArgs false
def insI (es : List DEnt) (s : ByteArray) : Nat := (es.takeWhile (fun x => sLt x.name s)).length
theorem insI_eq {s : ByteArray} : ∀ {es : List DEnt} {k : Nat}, (∀ (j : Nat) e, j < k → es[j]? = some e → sLt e.name s = true) → k ≤ es.length → (k = es.length ∨ ∃ e, es[k]? = some e ∧ sLt e.name s = false) → insI es s = k
  | [], k, _, h, _ => by simp at h; subst h; rfl
  | e :: es, 0, _, _, h => by
      obtain h | ⟨y, hy, hn⟩ := h
      · simp at h
      · simp at hy; subst hy; simp [insI, hn]
  | e :: es, k + 1, ha, hk, h => by
      have h0 := ha 0 e (by omega) (by simp)
      have ih := insI_eq (s := s) (es := es) (k := k) (fun j e hj he => ha (j + 1) e (by omega) (by simpa using he)) (by simpa using hk) (h.elim (fun h => .inl (by simpa using h)) (fun ⟨e, he, hn⟩ => .inr ⟨e, by simpa using he, hn⟩))
      unfold insI at ih ⊢
      simp [List.takeWhile_cons, h0, ih]
abbrev putE (es : List DEnt) (n : DEnt) : List DEnt := es.take (insI es n.name) ++ [n] ++ es.drop (insI es n.name)
theorem putE_eq {es : List DEnt} {n : DEnt} {k : Nat} (h : insI es n.name = k) : es.take k ++ [n] ++ es.drop k = putE es n := by subst h; rfl
/-! ### the answer's number, and the tree behind it -/
def addC (f : DFs) (a : Int) (s : ByteArray) (b : Int) : Int :=
  if 0 ≤ lookI (entsAt f.inodes a) s then 7
  else if ¬ (placeIn f.inodes.length b ∧ kindAt f.inodes b ≠ 0) then 4
  else if 6 ≤ (entsAt f.inodes a).length ∨ (kindAt f.inodes b = 1 ∧ 60 ≤ linksAt f.inodes b) then 2 else 0
def addX (f : DFs) (a : Int) (s : ByteArray) (b : Int) : DFs :=
  if kindAt f.inodes b = 1 then ⟨withL (withE f.inodes a (putE (entsAt f.inodes a) ⟨s, b⟩)) b (linksAt f.inodes b + 1), f.data⟩ else takeF f a (putE (entsAt f.inodes a) ⟨s, b⟩)
def addF (f : DFs) (a : Int) (s : ByteArray) (b : Int) : DFs := if addC f a s b = 0 then addX f a s b else f
theorem addC_7 {f : DFs} {a b : Int} {s : ByteArray} (h : 0 ≤ lookI (entsAt f.inodes a) s) : addC f a s b = 7 := if_pos h
theorem addC_4 {f : DFs} {a b : Int} {s : ByteArray} (h : ¬ 0 ≤ lookI (entsAt f.inodes a) s) (h2 : ¬ (placeIn f.inodes.length b ∧ kindAt f.inodes b ≠ 0)) : addC f a s b = 4 := by unfold addC; rw [if_neg h, if_pos h2]
theorem addC_2 {f : DFs} {a b : Int} {s : ByteArray} (h : ¬ 0 ≤ lookI (entsAt f.inodes a) s) (h2 : placeIn f.inodes.length b ∧ kindAt f.inodes b ≠ 0) (h3 : 6 ≤ (entsAt f.inodes a).length ∨ (kindAt f.inodes b = 1 ∧ 60 ≤ linksAt f.inodes b)) : addC f a s b = 2 := by unfold addC; rw [if_neg h, if_neg (by intro h4; exact h4 h2), if_pos h3]
theorem addC_0 {f : DFs} {a b : Int} {s : ByteArray} (h : ¬ 0 ≤ lookI (entsAt f.inodes a) s) (h2 : placeIn f.inodes.length b ∧ kindAt f.inodes b ≠ 0) (h3 : ¬ (6 ≤ (entsAt f.inodes a).length ∨ (kindAt f.inodes b = 1 ∧ 60 ≤ linksAt f.inodes b))) : addC f a s b = 0 := by unfold addC; rw [if_neg h, if_neg (by intro h4; exact h4 h2), if_neg h3]
theorem addF_n {f : DFs} {a b : Int} {s : ByteArray} (h : ¬ addC f a s b = 0) : addF f a s b = f := if_neg h
theorem addF_f {f : DFs} {a b : Int} {s : ByteArray} (h : addC f a s b = 0) (h2 : kindAt f.inodes b = 1) : addF f a s b = ⟨withL (withE f.inodes a (putE (entsAt f.inodes a) ⟨s, b⟩)) b (linksAt f.inodes b + 1), f.data⟩ := by unfold addF; rw [if_pos h, addX, if_pos h2]
theorem addF_d {f : DFs} {a b : Int} {s : ByteArray} (h : addC f a s b = 0) (h2 : ¬ kindAt f.inodes b = 1) : addF f a s b = takeF f a (putE (entsAt f.inodes a) ⟨s, b⟩) := by unfold addF; rw [if_pos h, addX, if_neg h2]
noncomputable def addNameR (f : DFs) (a : Int) (s : ByteArray) (b : Int) : RFs := if nameCode f a s = 0 then if addC f a s b = 0 then ⟨0, addX f a s b⟩ else ⟨addC f a s b, ⟨[], []⟩⟩ else ⟨nameCode f a s, ⟨[], []⟩⟩
theorem addNameR_f {f : DFs} {a b : Int} {s : ByteArray} (h : ¬ nameCode f a s = 0) : addNameR f a s b = ⟨nameCode f a s, ⟨[], []⟩⟩ := if_neg h
theorem addNameR_c {f : DFs} {a b : Int} {s : ByteArray} (h : nameCode f a s = 0) (h2 : ¬ addC f a s b = 0) : addNameR f a s b = ⟨addC f a s b, ⟨[], []⟩⟩ := by unfold addNameR; rw [if_pos h, if_neg h2]
theorem addNameR_0 {f : DFs} {a b : Int} {s : ByteArray} (h : nameCode f a s = 0) (h2 : addC f a s b = 0) : addNameR f a s b = ⟨0, addF f a s b⟩ := by unfold addNameR addF; rw [if_pos h, if_pos h2, if_pos h2]
theorem links_kind {xs : List DInode} (h : inodesFault xs = 0) {k : Int} (hk : ¬ kindAt xs k = 1) : linksAt xs k = 0 := by
  unfold kindAt at hk
  unfold linksAt
  cases hx : xs[k.toNat]? with
  | none => rfl
  | some x =>
    rw [hx] at hk
    simp only at hk ⊢
    have hf := inodes_all h x (List.mem_of_getElem? hx)
    unfold inodeFault at hf
    split at hf
    · split at hf
      · exact absurd hf (by decide)
      · rename_i h1
        by_cases hl : x.links = 0
        · exact hl
        · exact absurd (.inl ⟨hk, fun h2 => hl h2.1⟩) h1
    · exact absurd hf (by decide)
theorem look_or {f : DFs} {a : Int} {s : ByteArray} {es : List DEnt} (ht : treeFault f = 0) (e : entsAt f.inodes a = es) : (0 ≤ idxF (nameP s) es ∧ 0 ≤ lookI (entsAt f.inodes a) s) ∨ (idxF (nameP s) es < 0 ∧ lookI (entsAt f.inodes a) s < 0) := by
  subst e
  by_cases h : idxF (nameP s) (entsAt f.inodes a) < 0
  · exact .inr ⟨h, by rw [look_none h]; decide⟩
  · obtain ⟨ix, hix, hil, -⟩ := idxF_at (show ¬ idxF (nameP s) (entsAt f.inodes a) = -1 by omega)
    exact .inl ⟨by omega, by rw [look_ino hix]; exact (ino_place ht hil).1⟩
end Go.Proofs.YticaddophhggoaaGreat
/- What is proved: where paths lead, in plain Lean. No condition. -/
namespace Go.Proofs.YticaddophhggoaaGreat
open Go Go.RowKit
set_option linter.unusedVariables false
set_option linter.unusedSimpArgs false
/-! ### along names: (place, code) -/
def wkC (xs : List DInode) : Int → List ByteArray → Int × Int
  | a, [] => (a, 0)
  | a, n :: ns => if kindAt xs a = 2 then if lookI (entsAt xs a) n < 0 then (0, 4) else wkC xs (lookI (entsAt xs a) n) ns else (0, 9)
theorem wk_9 {xs : List DInode} {a : Int} {ns : List ByteArray} {k : Nat} {n : ByteArray} (h : ns[k]? = some n) (h2 : ¬ kindAt xs a = 2) : wkC xs a (ns.drop k) = (0, 9) := by
  rw [List.drop_eq_getElem?_toList_append, h]
  show wkC xs a (n :: ns.drop (k + 1)) = _
  rw [wkC, if_neg h2]
theorem wk_4 {xs : List DInode} {a : Int} {ns : List ByteArray} {k : Nat} {n : ByteArray} (h : ns[k]? = some n) (h2 : kindAt xs a = 2) (h3 : lookI (entsAt xs a) n < 0) : wkC xs a (ns.drop k) = (0, 4) := by
  rw [List.drop_eq_getElem?_toList_append, h]
  show wkC xs a (n :: ns.drop (k + 1)) = _
  rw [wkC, if_pos h2, if_pos h3]
theorem wk_s {xs : List DInode} {a : Int} {ns : List ByteArray} {k : Nat} {n : ByteArray} (h : ns[k]? = some n) (h2 : kindAt xs a = 2) (h3 : ¬ lookI (entsAt xs a) n < 0) : wkC xs a (ns.drop k) = wkC xs (lookI (entsAt xs a) n) (ns.drop (k + 1)) := by
  rw [List.drop_eq_getElem?_toList_append, h]
  show wkC xs a (n :: ns.drop (k + 1)) = _
  rw [wkC, if_pos h2, if_neg h3]
theorem wk_end {xs : List DInode} {a : Int} {ns : List ByteArray} {k : Nat} (h : ns.length ≤ k) : wkC xs a (ns.drop k) = (a, 0) := by rw [List.drop_eq_nil_of_le h]; rfl
theorem wk_place {f : DFs} (ht : treeFault f = 0) : ∀ (ns : List ByteArray) (a : Int), placeIn f.inodes.length a → placeIn f.inodes.length (wkC f.inodes a ns).1
  | [], a, h => h
  | n :: ns, a, h => by
    have h0 : placeIn f.inodes.length 0 := ⟨Int.le_refl _, by have := (rootOk (treeOk ht).1).2.1; omega⟩
    unfold wkC
    split
    · split
      · exact h0
      · rename_i h3; exact wk_place ht ns _ (look_place ht h3)
    · exact h0
theorem place_0 {f : DFs} (ht : treeFault f = 0) : placeIn f.inodes.length 0 := ⟨Int.le_refl _, by have := (rootOk (treeOk ht).1).2.1; omega⟩
def walkP (f : DFs) (s : ByteArray) : Int × Int := if splitC s = 0 then wkC f.inodes 0 (splitN s) else (0, splitC s)
theorem walkP_c {f : DFs} {s : ByteArray} (h : ¬ splitC s = 0) : walkP f s = (0, splitC s) := if_neg h
theorem walkP_0 {f : DFs} {s : ByteArray} (h : splitC s = 0) : walkP f s = wkC f.inodes 0 (splitN s) := if_pos h
theorem wk_zero {xs : List DInode} : ∀ {ns : List ByteArray} {a : Int}, ¬ (wkC xs a ns).2 = 0 → (wkC xs a ns).1 = 0
  | [], a, h => absurd rfl h
  | n :: ns, a, h => by
    unfold wkC at h ⊢
    split at h
    · split at h
      · rename_i h1 h2; rw [if_pos h1, if_pos h2]
      · rename_i h1 h2; rw [if_pos h1, if_neg h2]; exact wk_zero h
    · rename_i h1; rw [if_neg h1]
theorem walkP_z {f : DFs} {s : ByteArray} (h : ¬ (walkP f s).2 = 0) : (walkP f s).1 = 0 := by
  unfold walkP at h ⊢
  split at h
  · rename_i h1; rw [if_pos h1]; exact wk_zero h
  · rename_i h1; rw [if_neg h1]
theorem walkP_place {f : DFs} (ht : treeFault f = 0) (s : ByteArray) : placeIn f.inodes.length (walkP f s).1 := by
  unfold walkP
  split
  · exact wk_place ht _ _ (place_0 ht)
  · exact place_0 ht
noncomputable def walkR (f : DFs) (s : ByteArray) : RInt := if fsFault f = 0 then ⟨(walkP f s).2, (walkP f s).1⟩ else ⟨fsFault f, 0⟩
theorem walkR_f {f : DFs} {s : ByteArray} (h : ¬ fsFault f = 0) : walkR f s = ⟨fsFault f, 0⟩ := if_neg h
theorem walkR_0 {f : DFs} {s : ByteArray} (h : fsFault f = 0) : walkR f s = ⟨(walkP f s).2, (walkP f s).1⟩ := if_pos h
/-- A number, or a code. -/
def intP (a c : Int) : RInt := if c = 0 then ⟨0, a⟩ else ⟨c, 0⟩
theorem intP_c {a c : Int} (h : ¬ c = 0) : intP a c = ⟨c, 0⟩ := if_neg h
theorem intP_0 {a c : Int} (h : c = 0) : intP a c = ⟨0, a⟩ := if_pos h
theorem walkR_i {f : DFs} {s : ByteArray} (h : fsFault f = 0) : walkR f s = intP (walkP f s).1 (walkP f s).2 := by
  rw [walkR_0 h]
  by_cases h2 : (walkP f s).2 = 0
  · rw [intP_0 h2, h2]
  · rw [intP_c h2, walkP_z h2]
/-! ### the directory of the last name: (place, name, code) -/
def parP (f : DFs) (s : ByteArray) : Int × ByteArray × Int :=
  if lastC s = 0 then if (wkC f.inodes 0 (lastN s)).2 = 0 then if kindAt f.inodes (wkC f.inodes 0 (lastN s)).1 = 2 then ((wkC f.inodes 0 (lastN s)).1, lastT s, 0) else (0, ⟨#[]⟩, 9) else (0, ⟨#[]⟩, (wkC f.inodes 0 (lastN s)).2) else (0, ⟨#[]⟩, lastC s)
theorem parP_c {f : DFs} {s : ByteArray} (h : ¬ lastC s = 0) : parP f s = (0, ⟨#[]⟩, lastC s) := if_neg h
theorem parP_w {f : DFs} {s : ByteArray} (h : lastC s = 0) (h2 : ¬ (wkC f.inodes 0 (lastN s)).2 = 0) : parP f s = (0, ⟨#[]⟩, (wkC f.inodes 0 (lastN s)).2) := by rw [parP, if_pos h, if_neg h2]
theorem parP_9 {f : DFs} {s : ByteArray} (h : lastC s = 0) (h2 : (wkC f.inodes 0 (lastN s)).2 = 0) (h3 : ¬ kindAt f.inodes (wkC f.inodes 0 (lastN s)).1 = 2) : parP f s = (0, ⟨#[]⟩, 9) := by rw [parP, if_pos h, if_pos h2, if_neg h3]
theorem parP_0 {f : DFs} {s : ByteArray} (h : lastC s = 0) (h2 : (wkC f.inodes 0 (lastN s)).2 = 0) (h3 : kindAt f.inodes (wkC f.inodes 0 (lastN s)).1 = 2) : parP f s = ((wkC f.inodes 0 (lastN s)).1, lastT s, 0) := by rw [parP, if_pos h, if_pos h2, if_pos h3]
theorem parP_z {f : DFs} {s : ByteArray} (h : ¬ (parP f s).2.2 = 0) : (parP f s).1 = 0 := by
  by_cases h1 : lastC s = 0
  · by_cases h2 : (wkC f.inodes 0 (lastN s)).2 = 0
    · by_cases h3 : kindAt f.inodes (wkC f.inodes 0 (lastN s)).1 = 2
      · rw [parP_0 h1 h2 h3] at h; exact absurd rfl h
      · rw [parP_9 h1 h2 h3]
    · rw [parP_w h1 h2]
  · rw [parP_c h1]
theorem parP_size {f : DFs} {s : ByteArray} : (parP f s).2.1.size ≤ 4 := by
  have := lastT_size s
  by_cases h1 : lastC s = 0
  · by_cases h2 : (wkC f.inodes 0 (lastN s)).2 = 0
    · by_cases h3 : kindAt f.inodes (wkC f.inodes 0 (lastN s)).1 = 2
      · rw [parP_0 h1 h2 h3]; exact this
      · rw [parP_9 h1 h2 h3]; exact Nat.zero_le _
    · rw [parP_w h1 h2]; exact Nat.zero_le _
  · rw [parP_c h1]; exact Nat.zero_le _
noncomputable def parR (f : DFs) (s : ByteArray) : RInt := if fsFault f = 0 then ⟨(parP f s).2.2, (parP f s).1⟩ else ⟨fsFault f, 0⟩
theorem parR_f {f : DFs} {s : ByteArray} (h : ¬ fsFault f = 0) : parR f s = ⟨fsFault f, 0⟩ := if_neg h
theorem parR_0 {f : DFs} {s : ByteArray} (h : fsFault f = 0) : parR f s = ⟨(parP f s).2.2, (parP f s).1⟩ := if_pos h
theorem parR_i {f : DFs} {s : ByteArray} (h : fsFault f = 0) : parR f s = intP (parP f s).1 (parP f s).2.2 := by
  rw [parR_0 h]
  by_cases h2 : (parP f s).2.2 = 0
  · rw [intP_0 h2, h2]
  · rw [intP_c h2, parP_z h2]
/-! ### what is told -/
def sizeAt (xs : List DInode) (a : Int) : Int := match xs[a.toNat]? with | some x => x.size | none => 0
theorem size_at {xs : List DInode} {a : Int} {j : Nat} {x : DInode} (hx : xs[j]? = some x) (h : a = (j : Int)) : sizeAt xs a = x.size := by
  subst h
  unfold sizeAt
  rw [Int.toNat_natCast, hx]
def statA (f : DFs) (a : Int) : RStat := if kindAt f.inodes a = 2 then ⟨0, a, kindAt f.inodes a, 1, ((entsAt f.inodes a).length : Int)⟩ else ⟨0, a, kindAt f.inodes a, linksAt f.inodes a, sizeAt f.inodes a⟩
theorem statA_d {f : DFs} {a : Int} (h : kindAt f.inodes a = 2) : statA f a = ⟨0, a, kindAt f.inodes a, 1, ((entsAt f.inodes a).length : Int)⟩ := if_pos h
theorem statA_f {f : DFs} {a : Int} (h : ¬ kindAt f.inodes a = 2) : statA f a = ⟨0, a, kindAt f.inodes a, linksAt f.inodes a, sizeAt f.inodes a⟩ := if_neg h
noncomputable def statR (f : DFs) (s : ByteArray) : RStat := if fsFault f = 0 then if (walkP f s).2 = 0 then statA f (walkP f s).1 else ⟨(walkP f s).2, 0, 0, 0, 0⟩ else ⟨fsFault f, 0, 0, 0, 0⟩
theorem statR_f {f : DFs} {s : ByteArray} (h : ¬ fsFault f = 0) : statR f s = ⟨fsFault f, 0, 0, 0, 0⟩ := if_neg h
theorem statR_c {f : DFs} {s : ByteArray} (h : fsFault f = 0) (h2 : ¬ (walkP f s).2 = 0) : statR f s = ⟨(walkP f s).2, 0, 0, 0, 0⟩ := by rw [statR, if_pos h, if_neg h2]
theorem statR_0 {f : DFs} {s : ByteArray} (h : fsFault f = 0) (h2 : (walkP f s).2 = 0) : statR f s = statA f (walkP f s).1 := by rw [statR, if_pos h, if_pos h2]
end Go.Proofs.YticaddophhggoaaGreat
/- What is proved: the paths of all that there is, in plain Lean. No condition. -/
namespace Go.Proofs.YticaddophhggoaaGreat
open Go Go.RowKit
set_option linter.unusedVariables false
set_option linter.unusedSimpArgs false
theorem ents_len' {xs : List DInode} (h : inodesFault xs = 0) (a : Int) : (entsAt xs a).length ≤ 6 := by
  unfold entsAt
  cases hx : xs[a.toNat]? with
  | none => simp
  | some x => exact ents_6 (inodes_all h x (List.mem_of_getElem? hx))
def belowP (xs : List DInode) : Nat → Int → List ByteArray → List ByteArray
  | 0, _, _ => []
  | d + 1, a, ns => ((entsAt xs a).map (fun e => joinB (ns ++ [e.name]) :: belowP xs d e.ino (ns ++ [e.name]))).flatten
/-- .. of the first k entries. -/
def belowK (xs : List DInode) (d : Nat) (a : Int) (ns : List ByteArray) (k : Nat) : List ByteArray := (((entsAt xs a).take k).map (fun e => joinB (ns ++ [e.name]) :: belowP xs d e.ino (ns ++ [e.name]))).flatten
theorem bk_0 {xs : List DInode} {d : Nat} {a : Int} {ns : List ByteArray} : belowK xs d a ns 0 = [] := rfl
theorem bk_s {xs : List DInode} {d : Nat} {a : Int} {ns : List ByteArray} {k : Nat} {e : DEnt} (h : (entsAt xs a)[k]? = some e) : belowK xs d a ns (k + 1) = belowK xs d a ns k ++ (joinB (ns ++ [e.name]) :: belowP xs d e.ino (ns ++ [e.name])) := by
  unfold belowK
  rw [List.take_add_one, h]
  simp
theorem bk_end {xs : List DInode} {d : Nat} {a : Int} {ns : List ByteArray} {k : Nat} (h : (entsAt xs a).length ≤ k) : belowK xs d a ns k = belowP xs (d + 1) a ns := by
  unfold belowK
  rw [List.take_of_length_le h]
  rfl
def cB : Nat → Nat
  | 0 => 0
  | d + 1 => 6 * (1 + cB d)
theorem bp_len {xs : List DInode} (hI : inodesFault xs = 0) : ∀ (d : Nat) (a : Int) (ns : List ByteArray), (belowP xs d a ns).length ≤ cB d
  | 0, _, _ => Nat.zero_le _
  | d + 1, a, ns => by
    have h6 := ents_len' hI a
    have : ∀ es : List DEnt, ((es.map (fun e => joinB (ns ++ [e.name]) :: belowP xs d e.ino (ns ++ [e.name]))).flatten).length ≤ es.length * (1 + cB d) := fun es => by
      induction es with
      | nil => simp
      | cons e es ih =>
        have h1 := bp_len hI d e.ino (ns ++ [e.name])
        simp only [List.map_cons, List.flatten_cons, List.length_append, List.length_cons, Nat.succ_mul] at ih ⊢
        omega
    exact Nat.le_trans (this _) (Nat.mul_le_mul_right _ h6)
theorem bk_room {xs : List DInode} (hI : inodesFault xs = 0) {d : Nat} {a : Int} {ns : List ByteArray} {k : Nat} (hk : k < (entsAt xs a).length) : (belowK xs d a ns k).length + (1 + cB d) ≤ cB (d + 1) := by
  have h6 := ents_len' hI a
  have : ∀ es : List DEnt, ((es.map (fun e => joinB (ns ++ [e.name]) :: belowP xs d e.ino (ns ++ [e.name]))).flatten).length ≤ es.length * (1 + cB d) := fun es => by
    induction es with
    | nil => simp
    | cons e es ih =>
      have h1 := bp_len hI d e.ino (ns ++ [e.name])
      simp only [List.map_cons, List.flatten_cons, List.length_append, List.length_cons, Nat.succ_mul] at ih ⊢
      omega
  have h1 := this ((entsAt xs a).take k)
  rw [List.length_take, Nat.min_eq_left (by omega)] at h1
  have h2 : (k + 1) * (1 + cB d) ≤ 6 * (1 + cB d) := Nat.mul_le_mul_right _ (by omega)
  rw [Nat.succ_mul] at h2
  show _ ≤ 6 * (1 + cB d)
  unfold belowK
  omega
theorem cB_le : ∀ {d : Nat}, d ≤ 6 → cB d ≤ 55986
  | 0, _ | 1, _ | 2, _ | 3, _ | 4, _ | 5, _ | 6, _ => by decide
  | d + 7, h => by omega
theorem ents_kind {xs : List DInode} (hI : inodesFault xs = 0) {a : Int} (hk : ¬ kindAt xs a = 2) : entsAt xs a = [] := by
  unfold kindAt at hk
  unfold entsAt
  cases hx : xs[a.toNat]? with
  | none => rfl
  | some x =>
    rw [hx] at hk
    simp only at hk ⊢
    have hf := inodes_all hI x (List.mem_of_getElem? hx)
    unfold inodeFault at hf
    split at hf
    · split at hf
      · exact absurd hf (by decide)
      · rename_i h1
        exact List.length_eq_zero_iff.1 (Classical.byContradiction fun h2 => h1 (.inr ⟨hk, h2⟩))
    · exact absurd hf (by decide)
theorem bp_nodir {xs : List DInode} (hI : inodesFault xs = 0) {d : Nat} {a : Int} {ns : List ByteArray} (hk : ¬ kindAt xs a = 2) : belowP xs d a ns = [] := by
  cases d with
  | zero => rfl
  | succ d => simp [belowP, ents_kind hI hk]
theorem ent_name {f : DFs} (ht : treeFault f = 0) {a : Int} {k : Nat} {e : DEnt} (h : (entsAt f.inodes a)[k]? = some e) : nameFault e.name = 0 := by
  unfold entsAt at h
  cases hx : f.inodes[a.toNat]? with
  | none => rw [hx] at h; simp at h
  | some x =>
    rw [hx] at h
    exact (ents_ok (inodes_all (treeI ht) x (List.mem_of_getElem? hx)) k e h).1
theorem snoc_ok {ns : List ByteArray} {n : ByteArray} (h : ∀ s, s ∈ ns → nameFault s = 0) (hn : nameFault n = 0) : ∀ s, s ∈ ns ++ [n] → nameFault s = 0 := fun s hs => by
  rcases List.mem_append.1 hs with hs | hs
  · exact h s hs
  · obtain rfl := List.mem_singleton.1 hs; exact hn
theorem jn_snoc (ns : List ByteArray) (n : ByteArray) : jnB ns ++ ⟨#[47]⟩ ++ n = joinB (ns ++ [n]) := by
  have e : joinB (ns ++ [n]) = jnB (ns ++ [n]) := if_neg (by simp)
  rw [e]
  have := jnB_s (xs := ns ++ [n]) (k := ns.length) (x := n) (by simp)
  rw [List.take_left, List.take_of_length_le (by simp)] at this
  exact this
theorem jn_join (ns : List ByteArray) (n : ByteArray) : jnB (ns ++ [n]) = joinB (ns ++ [n]) := (if_neg (by simp) : joinB (ns ++ [n]) = jnB (ns ++ [n])).symm
noncomputable def pathsR (f : DFs) : RNames := if fsFault f = 0 then ⟨0, (belowP f.inodes 6 0 []).take 60⟩ else ⟨fsFault f, []⟩
theorem pathsR_f {f : DFs} (h : ¬ fsFault f = 0) : pathsR f = ⟨fsFault f, []⟩ := if_neg h
theorem pathsR_0 {f : DFs} (h : fsFault f = 0) : pathsR f = ⟨0, (belowP f.inodes 6 0 []).take 60⟩ := if_pos h
/-- As far as k entries, so deep. -/
def belowQ (xs : List DInode) (d : Nat) (a : Int) (ns : List ByteArray) (k : Nat) : List ByteArray := belowK xs (d - 1) a ns k
theorem bq_0 {xs : List DInode} {d : Nat} {a : Int} {ns : List ByteArray} : belowQ xs d a ns 0 = [] := rfl
theorem bq_s {xs : List DInode} {d : Nat} {a : Int} {ns : List ByteArray} {k : Nat} {e : DEnt} (hd : 0 < d) (h : (entsAt xs a)[k]? = some e) : belowQ xs d a ns (k + 1) = belowQ xs d a ns k ++ (joinB (ns ++ [e.name]) :: belowP xs (d - 1) e.ino (ns ++ [e.name])) := bk_s h
theorem bq_end {xs : List DInode} {d : Nat} {a : Int} {ns : List ByteArray} {k : Nat} (h : (d = 0 ∧ k = 0) ∨ (0 < d ∧ (entsAt xs a).length ≤ k)) : belowQ xs d a ns k = belowP xs d a ns := by
  rcases h with ⟨h1, h2⟩ | ⟨h1, h2⟩
  · subst h1; subst h2; rfl
  · cases d with
    | zero => omega
    | succ d => exact bk_end h2
theorem bq_room {xs : List DInode} (hI : inodesFault xs = 0) {d : Nat} {a : Int} {ns : List ByteArray} {k : Nat} (hd : 0 < d) (hk : k < (entsAt xs a).length) : (belowQ xs d a ns k).length + (1 + cB (d - 1)) ≤ cB d := by
  cases d with
  | zero => omega
  | succ d => exact bk_room hI hk
theorem flat_s {α : Type} {xs : List (List α)} {k : Nat} {y : List α} (h : xs[k]? = some y) : (xs.take (k + 1)).flatten.length = (xs.take k).flatten.length + y.length := by rw [List.take_add_one, h]; simp
theorem flat_app {α : Type} {xs : List (List α)} {k : Nat} {y : List α} (h : xs[k]? = some y) : (xs.take k).flatten ++ y = (xs.take (k + 1)).flatten := by rw [List.take_add_one, h]; simp
theorem flat_le {α : Type} : ∀ {xs : List (List α)} {k : Nat}, (xs.take k).flatten.length ≤ xs.flatten.length
  | [], _ => by simp
  | x :: xs, 0 => by simp
  | x :: xs, k + 1 => by
    have := flat_le (xs := xs) (k := k)
    simp only [List.take_succ_cons, List.flatten_cons, List.length_append]
    omega
theorem flat_le2 {α : Type} {xs : List (List α)} {k : Nat} {y : List α} (h : xs[k]? = some y) : (xs.take k).flatten.length + y.length ≤ xs.flatten.length := by rw [← flat_s h]; exact flat_le
theorem take_min {α : Type} (xs : List α) : xs.take (Int.toNat (minI (xs.length : Int) 60)) = xs.take 60 := by
  have := minI_spec (xs.length : Int) 60
  by_cases h : xs.length ≤ 60
  · rw [List.take_of_length_le h, List.take_of_length_le (by omega)]
  · rw [show Int.toNat (minI (xs.length : Int) 60) = 60 by omega]
theorem cat3_size {a b c : ByteArray} {B : Nat} (h : a.size + b.size + c.size ≤ B) : (a ++ b ++ c).size ≤ B := by rw [ByteArray.size_append, ByteArray.size_append]; exact h
end Go.Proofs.YticaddophhggoaaGreat
/- What is proved: copy into a part of a slice of one's own. No condition. -/
namespace Go.Proofs.YticaddophhggoaaGreat
open Go Go.RowKit
set_option linter.unusedVariables false
set_option linter.unusedSimpArgs false
theorem mix_take {β : Type} {cur fl ys : List β} {a : Nat} (h : cur.take fl.length = fl) (hm : a + ys.length ≤ fl.length) : (cur.take a ++ ys ++ cur.drop (a + ys.length)).take fl.length = fl.take a ++ ys ++ fl.drop (a + ys.length) := by
  have hc : cur = fl ++ cur.drop fl.length := by conv => lhs; rw [← List.take_append_drop fl.length cur, h]
  generalize cur.drop fl.length = r at hc
  subst hc
  have h1 : (fl ++ r).take a = fl.take a := List.take_append_of_le_length (by omega)
  have h2 : (fl ++ r).drop (a + ys.length) = fl.drop (a + ys.length) ++ r := List.drop_append_of_le_length hm
  rw [h1, h2, ← List.append_assoc]
  exact List.take_left' (by simp only [List.length_append, List.length_take, List.length_drop]; omega)
section
variable {P : Program} {T : Slots} {o : Oper} {w0 : World} {S0 : Bs} {l l' : List Asn}
theorem cpy_len {α : Type} {x : Operand} {xs : List α} {A : Option Addr} {i c : Nat} (h : Val T x (.slice A (subL xs i xs.length).length c)) : Val T x (.slice A (xs.length - i) c) := by rwa [subL_len (Nat.le_refl _)] at h
theorem e_copyF {α : Type} {K : Kd α} (hK : Flat K) {e by_ e2 by2 i c c' : Nat} {xs ys : List α} {ad : Addr} {A' : Option Addr} {xv : Value} {x s : Operand} {t t' : TypeId} (ho : o.op = .call { callee := .builtin .copy, args := #[x, s], argTypes := #[t, t'] }) (ht : P.underlying t = some (.slice e))
    (hi : (P.info? e).map (·.size) = some K.sz) (hx : Val T x (.slice A' (xs.length - i) c')) (hA : A' = (if c = i then some ad else some (ad.add (i * K.sz)))) (hs : Val T s xv)
    (hT : Takes l [ownA (kslice e by_ K) xs [.slice (some ad) xs.length c]] l') (hsrc : ∀ w S1, Tr w0 S0 w S1 l' → (kslice e2 by2 K).ro w (FF w S1) ys [xv]) (h : i + ys.length ≤ xs.length) (hp : 0 < ys.length) :
    Eff P o T w0 S0 l (fun r l2 => r = .int .i64 (ys.length : Int) ∧ l2 = ownA (kslice e by_ K) (xs.take i ++ ys ++ xs.drop (i + ys.length)) [.slice (some ad) xs.length c] :: l') := by
  intro a w ha hw
  obtain ⟨S1, hA1, tr, hkk⟩ := (hw.takes hT).eff
  obtain ⟨css2, g1, g2, g3⟩ := src_flat (hsrc w S1 tr)
  obtain ⟨i0, k1, k2⟩ := Option.map_eq_some_iff.1 hi
  obtain ⟨b, c2, rfl, hcell⟩ : ∃ b c, xv = .slice (some b) ys.length c ∧ ∀ j u, css2.flatten[j]? = some u → w.cell? (b.add j) = some u := by
    rcases g2.from_ with h1 | ⟨_, h1⟩
    · exact h1
    · omega
  rcases (show (kslice e by_ K).own w S1 xs [.slice (some ad) xs.length c] from hA1.head) with ⟨A, hv, rfl⟩ | ⟨g, cc, css, hv, h1, h2, h3, h4, h5⟩
  · simp only [List.length_nil] at h; omega
  have hv' := List.singleton_inj.1 hv
  injection hv' with e1 e2 e3
  obtain rfl := Option.some.inj e1
  subst e3
  obtain ⟨B1, B2, ⟨hg, cur, q1, q2, q3, q4⟩, hseq, i1, i2, dd⟩ := h5
  have hlc := seq_len h4 hseq
  have hfl : css.flatten.length = xs.length * K.sz := by rw [flatten_len hlc, h4]
  have hl2 : css2.flatten.length = ys.length * K.sz := g2.len
  have hone : ∀ u, u ∈ css2.flatten → u.oneCell' = true := fun u hu => by
    obtain ⟨d, hd, hu2⟩ := List.mem_flatten.1 hu
    obtain ⟨j, hj, rfl⟩ := List.mem_iff_getElem.1 hd
    obtain ⟨y, hy⟩ := get_ex (xs := ys) (j := j) (by omega)
    exact K.ro_one (g3 j y _ hy (List.getElem?_eq_getElem hj)) u hu2
  have hmul : (i + ys.length) * K.sz ≤ xs.length * K.sz := Nat.mul_le_mul_right _ h
  rw [Nat.add_mul] at hmul
  have hlA : A' = some ((⟨g, 0, none⟩ : Addr).add (i * K.sz)) := by
    rw [hA, if_neg (by omega)]
  have hcz : xs.length * K.sz ≤ c * K.sz := Nat.mul_le_mul_right _ h1
  have hcur : cur.toList.length = cur.size := Array.length_toList
  have hst := run_storeCells_at P g (i * K.sz) e css2.flatten 0 cur w q1 (by omega) hone
  simp only [Nat.add_zero, hl2] at hst
  have hfc := run_firstCells_some (P := P) w K.sz ys.length b ys.length c2 css2.flatten hl2 hcell
  have hne : ∀ q, q ≠ g → (w.setRow g (cur.toList.take (i * K.sz) ++ css2.flatten ++ cur.toList.drop (i * K.sz + ys.length * K.sz)).toArray).heap[q]? = w.heap[q]? := fun q hq => setRow_other w g q _ hq
  have hn : css2.length = ys.length := g1
  have hcl : (css.take i ++ css2 ++ css.drop (i + ys.length)).length = (xs.take i ++ ys ++ xs.drop (i + ys.length)).length := by
    simp only [List.length_append, List.length_take, List.length_drop]; omega
  have hxl : (xs.take i ++ ys ++ xs.drop (i + ys.length)).length = xs.length := by
    simp only [List.length_append, List.length_take, List.length_drop]; omega
  have hro : ∀ (j : Nat) (y : α) (d : List Value), (xs.take i ++ ys ++ xs.drop (i + ys.length))[j]? = some y → (css.take i ++ css2 ++ css.drop (i + ys.length))[j]? = some d → K.ro w (FF w S1) y d ∨ ∃ F, K.ro w F y d := fun j y d hy hd => by
    have hti : (xs.take i).length = i := by rw [List.length_take]; omega
    have htc : (css.take i).length = i := by rw [List.length_take]; omega
    by_cases hj : j < i
    · rw [List.append_assoc, List.getElem?_append_left (by omega), List.getElem?_take, if_pos hj] at hy hd
      exact .inr ⟨_, K.own_ro (seq_at hseq hy hd)⟩
    · rw [List.append_assoc, List.getElem?_append_right (by omega), hti] at hy
      rw [List.append_assoc, List.getElem?_append_right (by omega), htc] at hd
      by_cases hj2 : j - i < ys.length
      · rw [List.getElem?_append_left hj2] at hy
        rw [List.getElem?_append_left (by omega)] at hd
        exact .inl (g3 _ y d hy hd)
      · rw [List.getElem?_append_right (by omega), List.getElem?_drop] at hy
        rw [List.getElem?_append_right (by omega), List.getElem?_drop, hn] at hd
        exact .inr ⟨_, K.own_ro (seq_at hseq hy hd)⟩
  have hflat : (css.take i ++ css2 ++ css.drop (i + ys.length)).flatten = css.flatten.take (i * K.sz) ++ css2.flatten ++ css.flatten.drop (i * K.sz + ys.length * K.sz) := by
    rw [List.flatten_append, List.flatten_append, flatten_take hlc, flatten_drop hlc, Nat.add_mul]
  have hseq2 : ∀ (w' : World) (S' : Bs), Star (seqA K (xs.take i ++ ys ++ xs.drop (i + ys.length)) (css.take i ++ css2 ++ css.drop (i + ys.length))) w' S' := fun w' S' => by
    have : ∀ {zs : List α} {ds : List (List Value)}, ds.length = zs.length → (∀ (j : Nat) (y : α) (d : List Value), zs[j]? = some y → ds[j]? = some d → K.ro w (FF w S1) y d ∨ ∃ F, K.ro w F y d) → Star (seqA K zs ds) w' S' := by
      intro zs
      induction zs generalizing S' with
      | nil => intro ds hl _; cases ds with
        | nil => trivial
        | cons _ _ => simp at hl
      | cons z zs ih => intro ds hl hz; cases ds with
        | nil => simp at hl
        | cons d ds =>
          refine ⟨fun _ => False, fun _ => False, ?_, ih _ (by simpa using hl) (fun j y c' p1 p2 => hz (j + 1) y c' p1 p2), fun _ h => h.elim, fun _ h => h.elim, fun _ h => h.elim⟩
          rcases hz 0 z d rfl rfl with hh | ⟨F, hh⟩
          · exact hK hh _ _
          · exact hK hh _ _
    exact this hcl hro
  refine ⟨.int .i64 (ys.length : Int), _, _, ?_, ⟨rfl, rfl⟩, hkk _ [ownA (kslice e by_ K) (xs.take i ++ ys ++ xs.drop (i + ys.length)) [.slice (some ⟨g, 0, none⟩) xs.length c]] S1 (Star.one (c := ownA (kslice e by_ K) _ _) (.inr ⟨g, c, css.take i ++ css2 ++ css.drop (i + ys.length), by rw [hxl], by rw [hxl]; exact h1, h2, by rw [hxl]; exact h3, hcl, B1, fun _ => False, ⟨hg, _, setRow_heap w g cur _ e _ q1, ?_, ?_, ?_⟩, hseq2 _ _, i1, fun _ h => h.elim, fun _ _ h => h⟩)) (fun b hb => .inl hb) ⟨rfl, rfl, rfl, by simp, fun b hb hn => hne b (fun e => hn (e ▸ i1 g hg))⟩⟩
  · simp only [execOp, ho, hx a ha, hs a ha]
    have hmin : Nat.min ys.length (xs.length - i) = ys.length := Nat.min_eq_left (by omega)
    have : (Builtin.copy_ #[t, t'] o.type #[.slice A' (xs.length - i) c', .slice (some b) ys.length c2]).run P w = .ok (.int .i64 (ys.length : Int)) (w.setRow g (cur.toList.take (i * K.sz) ++ css2.flatten ++ cur.toList.drop (i * K.sz + ys.length * K.sz)).toArray) := by
      rw [hlA, add_plain']
      simp [Builtin.copy_, run_underlying ht, Builtin.lenOf, sizeOf, typeInfo, k1, k2, hmin, hfc, hst, goInt]
    simp [resolve, hx a ha, hs a ha, invoke, builtin, this]
  · simp only [List.size_toArray, List.length_append, List.length_take, List.length_drop, hl2]; omega
  · rw [hflat]; simp only [List.size_toArray, List.length_append, List.length_take, List.length_drop, hl2, hfl]; omega
  · rw [hflat]
    have hm := mix_take (cur := cur.toList) (fl := css.flatten) (ys := css2.flatten) (a := i * K.sz) q4 (by omega)
    rw [hl2] at hm
    have hlen : (css.flatten.take (i * K.sz) ++ css2.flatten ++ css.flatten.drop (i * K.sz + ys.length * K.sz)).length = css.flatten.length := by
      simp only [List.length_append, List.length_take, List.length_drop, hl2]; omega
    rw [hlen]
    exact hm
end
end Go.Proofs.YticaddophhggoaaGreat

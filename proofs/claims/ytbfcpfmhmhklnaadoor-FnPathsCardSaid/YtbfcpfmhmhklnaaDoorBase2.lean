/- What is proved: elements taken out of a slice of one's own, in place. No condition. -/
import Derived.Test.YtbfcpfmhmhklnaaDoorBase1
import Derived.Lib.SlicesCompact
import Derived.Sort.Row
import Derived.Sort.Grow
namespace Go.Proofs.YtbfcpfmhmhklnaaDoor
open Go Go.RowKit
set_option linter.unusedVariables false
set_option linter.unusedSimpArgs false
theorem Star.sublist {l l' : List Asn} (h : l'.Sublist l) : ∀ {w : World} {S : Bs}, Star l w S → Star l' w S := by
  induction h with
  | slnil => exact fun h => h
  | cons c _ ih => exact fun h => ih h.drop
  | cons_cons c _ ih =>
    intro w S ⟨A, B, h1, h2, a, b, d⟩
    exact ⟨A, B, h1, ih h2, a, b, d⟩
theorem seq_cut {α : Type} {K : Kd α} {xs : List α} {css : List (List Value)} {w : World} {S : Bs} {i j : Nat} (hl : css.length = xs.length) (hij : i ≤ j) (h : Star (seqA K xs css) w S) : Star (seqA K (xs.take i ++ xs.drop j) (css.take i ++ css.drop j)) w S := by
  have e : seqA K (xs.take i ++ xs.drop j) (css.take i ++ css.drop j) = (seqA K xs css).take i ++ (seqA K xs css).drop j := by
    unfold seqA
    rw [List.zipWith_append (by simp [hl]), List.take_zipWith, List.drop_zipWith]
  rw [e]
  refine Star.sublist ?_ h
  have : (seqA K xs css).take i ++ (seqA K xs css).drop i = seqA K xs css := List.take_append_drop _ _
  conv => rhs; rw [← this]
  exact List.Sublist.append (List.Sublist.refl _) (List.drop_sublist_drop_left _ hij)
theorem flatten_take {css : List (List Value)} {n : Nat} (hl : ∀ c, c ∈ css → c.length = n) (i : Nat) : (css.take i).flatten = css.flatten.take (i * n) := by
  induction css generalizing i with
  | nil => simp
  | cons d css ih =>
    have hd := hl d List.mem_cons_self
    cases i with
    | zero => simp
    | succ i =>
      simp only [List.take_succ_cons, List.flatten_cons]
      rw [ih (fun c hc => hl c (List.mem_cons_of_mem _ hc)) i, List.take_append, List.take_of_length_le (l := d) (by rw [hd, Nat.succ_mul]; omega), hd, Nat.succ_mul, Nat.add_sub_cancel]
theorem flatten_drop {css : List (List Value)} {n : Nat} (hl : ∀ c, c ∈ css → c.length = n) (i : Nat) : (css.drop i).flatten = css.flatten.drop (i * n) := by
  induction css generalizing i with
  | nil => simp
  | cons d css ih =>
    have hd := hl d List.mem_cons_self
    cases i with
    | zero => simp
    | succ i =>
      simp only [List.drop_succ_cons, List.flatten_cons]
      rw [ih (fun c hc => hl c (List.mem_cons_of_mem _ hc)) i, List.drop_append, List.drop_of_length_le (l := d) (by rw [hd, Nat.succ_mul]; omega), hd, List.nil_append, Nat.succ_mul, Nat.add_sub_cancel]
section
variable {P : Program} {T : Slots} {Wd : World → Prop} {o : Oper} {N : Nat} {w0 : World} {S0 : Bs} {l l' lk : List Asn}
/-- append(s[:i], s[j:]...) over one row: what is between is gone. -/
theorem e_appendSelf {α : Type} {K : Kd α} {e by_ i j c : Nat} {xs : List α} {ad : Addr} {A' : Option Addr} {z : Option Value} {s x : Operand} {t : TypeId} (ho : o.op = .call { callee := .builtin .append, args := #[s, x], argTypes := #[t, t] }) (ht : P.underlying t = some (.slice e))
    (hi : (P.info? e).map (fun i => (i.size, i.bytes, i.zero)) = some (K.sz, by_, z)) (hs : Val T s (.slice (some ad) i c)) (hx : Val T x (.slice A' (xs.length - j) (c - j))) (hA : A' = (if c = j then some ad else some (ad.add (j * K.sz))))
    (hT : Takes l [ownA (kslice e by_ K) xs [.slice (some ad) xs.length c]] l') (hij : i ≤ j) (hj : j ≤ xs.length) :
    Eff P o T w0 S0 l (fun r l2 => r = .slice (some ad) (xs.take i ++ xs.drop j).length c ∧ l2 = ownA (kslice e by_ K) (xs.take i ++ xs.drop j) [r] :: l') := by
  intro a w ha hw
  obtain ⟨S1, hA1, tr, hk⟩ := (hw.takes hT).eff
  obtain ⟨i0, k1, k2⟩ := Option.map_eq_some_iff.1 hi
  obtain ⟨k2, k3⟩ := Prod.mk.inj k2
  have hlen : (xs.take i ++ xs.drop j).length = i + (xs.length - j) := by simp; omega
  rcases (show (kslice e by_ K).own w S1 xs [.slice (some ad) xs.length c] from hA1.head) with ⟨A, h, rfl⟩ | ⟨g, c', css, h, h1, h2, h3, h4, h5⟩
  · -- nothing is there
    have h' := List.singleton_inj.1 h
    injection h' with e1 e2 e3
    subst e3
    have hj0 : j = 0 := by simpa using hj
    subst hj0
    have hi0 : i = 0 := by omega
    subst hi0
    simp only [if_true] at hA
    subst hA
    refine ⟨.slice (some ad) 0 0, w, _, ?_, ⟨rfl, rfl⟩, hk w [ownA (kslice e by_ K) ([].take 0 ++ [].drop 0) [.slice (some ad) 0 0]] S1 (Star.one (c := ownA (kslice e by_ K) _ _) (.inl ⟨some ad, rfl, rfl⟩)) (fun b hb => .inl hb) (Fr.refl _ _)⟩
    have hx' : a.eval x = .slice (some ad) 0 0 := hx a ha
    rw [exec_append ho (hs a ha) hx', append_none ht k1 (some ad) 0 0 (Nat.le_refl _) _ ⟨_, _, rfl⟩ w]; rfl
  · have h' := List.singleton_inj.1 h
    injection h' with e1 e2 e3
    obtain rfl := Option.some.inj e1
    subst e3
    obtain ⟨B1, B2, ⟨hg, cur, q1, q2, q3, q4⟩, hseq, i1, i2, dd⟩ := h5
    have hlc := seq_len h4 hseq
    have hfl : css.flatten.length = xs.length * K.sz := by rw [flatten_len hlc, h4]
    have hcut := seq_cut (i := i) (j := j) h4 hij hseq
    have hclen : (css.take i ++ css.drop j).length = (xs.take i ++ xs.drop j).length := by simp [h4]
    have hx3 : (xs.take i ++ xs.drop j).length * by_ ≤ 140737488355328 := by
      have : (xs.take i ++ xs.drop j).length * by_ ≤ xs.length * by_ := Nat.mul_le_mul_right _ (by omega)
      omega
    by_cases hm : xs.length - j = 0
    · have hje : j = xs.length := by omega
      subst hje
      refine ⟨.slice (some ⟨g, 0, none⟩) i c, w, _, ?_, ⟨by rw [hlen, hm]; rfl, rfl⟩, hk w [ownA (kslice e by_ K) (xs.take i ++ xs.drop xs.length) [.slice (some ⟨g, 0, none⟩) i c]] S1 (Star.one (c := ownA (kslice e by_ K) _ _) (.inr ⟨g, c, css.take i ++ css.drop xs.length, by rw [hlen, hm]; rfl, by rw [hlen]; omega, h2, hx3, hclen, B1, B2, ⟨hg, cur, q1, q2, ?_, ?_⟩, hcut, i1, i2, dd⟩)) (fun b hb => .inl hb) (Fr.refl _ _)⟩
      · have hx' := hx a ha
        rw [hm] at hx'
        rw [exec_append ho (hs a ha) hx', append_none ht k1 (some ⟨g, 0, none⟩) i c (by omega) _ ⟨_, _, rfl⟩ w]; rfl
      · rw [← h4, List.drop_length, List.append_nil, flatten_take hlc, List.length_take]; omega
      · rw [← h4, List.drop_length, List.append_nil, flatten_take hlc]
        have hle : i * K.sz ≤ css.flatten.length := by rw [hfl]; exact Nat.mul_le_mul_right _ (by omega)
        rw [List.length_take, Nat.min_eq_left hle, ← q4, List.take_take, Nat.min_eq_left (by rw [q4] at *; exact hle)]
    · rw [if_neg (by omega)] at hA
      subst hA
      have hnl : (css.drop j).flatten.length = (xs.length - j) * K.sz := by rw [flatten_drop hlc, List.length_drop, hfl, Nat.sub_mul]
      have hone : ∀ u, u ∈ (css.drop j).flatten → u.oneCell' = true := by
        intro u hu
        obtain ⟨d, hd, hu⟩ := List.mem_flatten.1 hu
        exact (seq_ones h4 hseq d (List.mem_of_mem_drop hd)).2 u hu
      have hroom : i + (xs.length - j) ≤ c := by omega
      have hmul : (i + (xs.length - j)) * K.sz ≤ c * K.sz := Nat.mul_le_mul_right _ hroom
      rw [Nat.add_mul] at hmul
      have hr := run_append_room (P := P) w t o.type e i0 ht k1 g i c cur q1 ((⟨g, 0, none⟩ : Addr).add (j * K.sz)) (xs.length - j) (c - j) (css.drop j).flatten (by rw [k2]; exact hnl)
        (fun q u hu => by
          rw [add_add, add_plain', flatten_drop hlc, List.getElem?_drop] at *
          exact row_cell (S := B1) (sz := K.sz) (c := c) ⟨hg, cur, q1, q2, q3, q4⟩ hu) hone hroom (by rw [k2, hnl, q2]; exact hmul)
      rw [k2] at hr
      have htk : cur.toList.take (i * K.sz) = (css.take i).flatten := by
        rw [flatten_take hlc, ← q4, List.take_take, Nat.min_eq_left]
        rw [hfl]; exact Nat.mul_le_mul_right _ (by omega)
      rw [htk] at hr
      have hne : ∀ b, b ≠ g → (w.setRow g ((css.take i).flatten ++ (css.drop j).flatten ++ cur.toList.drop (i * K.sz + (css.drop j).flatten.length)).toArray).heap[b]? = w.heap[b]? := fun b hb => setRow_other w g b _ hb
      have hti : (css.take i).flatten.length = i * K.sz := by rw [flatten_take hlc, List.length_take, Nat.min_eq_left]; rw [hfl]; exact Nat.mul_le_mul_right _ (by omega)
      refine ⟨_, _, _, ?_, ⟨by rw [hlen], rfl⟩, hk _ [ownA (kslice e by_ K) (xs.take i ++ xs.drop j) [.slice (some ⟨g, 0, none⟩) (i + (xs.length - j)) c]] S1 (Star.one (c := ownA (kslice e by_ K) _ _) (.inr ⟨g, c, css.take i ++ css.drop j, by rw [hlen], by rw [hlen]; exact hroom, h2, hx3, hclen, B1, B2, ⟨hg, _, setRow_heap w g cur _ e _ q1, ?_, ?_, ?_⟩, hcut.loc (fun b hb => hne b (fun e => dd g hg (e ▸ hb))), i1, i2, dd⟩)) (fun b hb => .inl hb) ⟨rfl, rfl, rfl, by simp, fun b hb hn => hne b (fun e => hn (e ▸ i1 g hg))⟩⟩
      · rw [exec_append ho (hs a ha) (hx a ha), hr]; rfl
      · simp only [List.size_toArray, List.length_append, List.length_drop, Array.length_toList, hti, hnl]; omega
      · simp only [List.size_toArray, List.length_append, List.flatten_append]; omega
      · simp only [List.flatten_append]; exact List.take_left
theorem q_sliceHi {x : Operand} {t e : TypeId} {sz b n c : Nat} {z : Operand} {k : IntKind} {ad : Addr} (ho : o.op = .slice t x none (some z) none) (ht : P.underlying t = some (.slice e)) (he : (P.info? e).map (·.size) = some sz) (hx : Val T x (.slice (some ad) n c)) (hz : Val T z (.int k (b : Int))) (h : b ≤ c) : Quiet P o T Wd (.slice (some ad) b c) := by
  have h0 := q_slice (Wd := Wd) (a := 0) (b := b) ho ht he hx (.inl ⟨rfl, rfl⟩) (.inr ⟨z, k, rfl, hz⟩) (Nat.zero_le _) h
  have e1 : (some ad).map (·.add (0 * sz)) = some ad := by rw [Nat.zero_mul]; simp [Addr.add]
  rw [e1, ite_self, Nat.sub_zero, Nat.sub_zero] at h0
  exact h0
/-- An effect whose value nobody asks for. -/
theorem FJ.ev {o : Oper} {F F' : Act → World → Prop} {R : Value → List Asn → Prop} (hG : Goes P N T o F F') (hd : o.dst = none) (he : Eff P o T w0 S0 l R) (h : ∀ v l', R v l' → FJ N w0 S0 F' T l') : FJ N w0 S0 F T l := by
  intro a w h1 h2 h3 h4
  obtain ⟨v, w', l', hr, hR, hw⟩ := he a w h3 h4
  refine hG.value a w v w' h2 h3 hr ?_
  rw [hd]
  exact h v l' hR _ w' h1 h2 h3 hw
/-- clear of what lies behind a slice's own elements. -/
theorem e_clearTail {α : Type} {K : Kd α} {e by_ k c : Nat} {ys : List α} {ad : Addr} {A' : Option Addr} {z : Value} {x : Operand} {t : TypeId} (ho : o.op = .call { callee := .builtin .clear, args := #[x], argTypes := #[t] }) (ht : P.underlying t = some (.slice e))
    (hi : (P.info? e).map (fun i => (i.size, i.bytes, i.zero)) = some (K.sz, by_, some z)) (hz : z.cells.size = K.sz) (hz1 : ∀ u, u ∈ z.cells.toList → u.oneCell' = true) (hx : Val T x (.slice A' k (c - ys.length))) (hA : A' = (if c = ys.length then some ad else some (ad.add (ys.length * K.sz))))
    (hT : Takes l [ownA (kslice e by_ K) ys [.slice (some ad) ys.length c]] l') (hk : ys.length + k ≤ c) :
    Eff P o T w0 S0 l (fun r l2 => l2 = ownA (kslice e by_ K) ys [.slice (some ad) ys.length c] :: l') := by
  intro a w ha hw
  obtain ⟨S1, hA1, tr, hkk⟩ := (hw.takes hT).eff
  obtain ⟨i0, k1, k2⟩ := Option.map_eq_some_iff.1 hi
  obtain ⟨k2, k3⟩ := Prod.mk.inj k2
  obtain ⟨k3, k4⟩ := Prod.mk.inj k3
  have hexec : ∀ w', (Builtin.clear_ #[t] o.type #[.slice A' k (c - ys.length)]).run P w = .ok (.tuple #[]) w' → (execOp a.eval o).run P w = .ok (.value (.tuple #[])) w' := fun w' h => by
    simp only [execOp, ho]
    simp [resolve, hx a ha, invoke, builtin, h]
  by_cases hk0 : k = 0
  · subst hk0
    refine ⟨.tuple #[], w, _, hexec w ?_, rfl, hkk w [ownA (kslice e by_ K) ys [.slice (some ad) ys.length c]] S1 (Star.one hA1.head) (fun b hb => .inl hb) (Fr.refl _ _)⟩
    cases A' <;> simp [Builtin.clear_, run_underlying ht]
  rw [if_neg (by omega)] at hA
  subst hA
  rcases (show (kslice e by_ K).own w S1 ys [.slice (some ad) ys.length c] from hA1.head) with ⟨A, h, rfl⟩ | ⟨g, c', css, h, h1, h2, h3, h4, h5⟩
  · have h' := List.singleton_inj.1 h
    injection h' with e1 e2 e3
    omega
  · have h' := List.singleton_inj.1 h
    injection h' with e1 e2 e3
    obtain rfl := Option.some.inj e1
    subst e3
    obtain ⟨B1, B2, ⟨hg, cur, q1, q2, q3, q4⟩, hseq, i1, i2, dd⟩ := h5
    have hlc := seq_len h4 hseq
    have hfl : css.flatten.length = ys.length * K.sz := by rw [flatten_len hlc, h4]
    have hzl : (Builtin.zeroCells z.cells k).toList.length = k * K.sz := by rw [Array.length_toList, size_zeroCells, hz]
    have hmul : (ys.length + k) * K.sz ≤ c * K.sz := Nat.mul_le_mul_right _ hk
    rw [Nat.add_mul] at hmul
    have hone : ∀ u, u ∈ (Builtin.zeroCells z.cells k).toList → u.oneCell' = true := by
      intro u hu
      have hu' : u ∈ (madeCells z.cells (k * z.cells.size)).toList := hu
      rw [madeCells_flat _ _ (by rw [hz]; exact K.pos)] at hu'
      obtain ⟨d, hd, hu2⟩ := List.mem_flatten.1 hu'
      rw [(List.mem_replicate.1 hd).2] at hu2
      exact hz1 u hu2
    have hcur : cur.toList.length = cur.size := Array.length_toList
    have hst := run_storeCells_at P g (ys.length * K.sz) e (Builtin.zeroCells z.cells k).toList 0 cur w q1 (by rw [hzl]; omega) hone
    simp only [Nat.add_zero, hzl] at hst
    have hne : ∀ b, b ≠ g → (w.setRow g (cur.toList.take (ys.length * K.sz) ++ (Builtin.zeroCells z.cells k).toList ++ cur.toList.drop (ys.length * K.sz + k * K.sz)).toArray).heap[b]? = w.heap[b]? := fun b hb => setRow_other w g b _ hb
    refine ⟨.tuple #[], _, _, hexec _ ?_, rfl, hkk _ [ownA (kslice e by_ K) ys [.slice (some ⟨g, 0, none⟩) ys.length c]] S1 (Star.one (c := ownA (kslice e by_ K) _ _) (.inr ⟨g, c, css, rfl, h1, h2, h3, h4, B1, B2, ⟨hg, _, setRow_heap w g cur _ e _ q1, ?_, ?_, ?_⟩, hseq.loc (fun b hb => hne b (fun e => dd g hg (e ▸ hb))), i1, i2, dd⟩)) (fun b hb => .inl hb) ⟨rfl, rfl, rfl, by simp, fun b hb hn => hne b (fun e => hn (e ▸ i1 g hg))⟩⟩
    · rw [add_plain']
      simp [Builtin.clear_, run_underlying ht, hk0, zeroValue, typeInfo, k1, k4, hst]
    · simp only [List.size_toArray, List.length_append, List.length_take, List.length_drop, Array.length_toList, hzl]; omega
    · simp only [List.size_toArray, List.length_append, List.length_take, List.length_drop, Array.length_toList, hzl]; omega
    · rw [hfl, List.append_assoc, List.take_append_of_le_length (by rw [List.length_take]; omega), List.take_take, Nat.min_self, ← hfl]
      exact q4
end
end Go.Proofs.YtbfcpfmhmhklnaaDoor
/- What is proved: blocks that are used, free and picked, in plain Lean. No condition. -/
namespace Go.Proofs.YtbfcpfmhmhklnaaDoor
open Go Go.RowKit
set_option linter.unusedVariables false
set_option linter.unusedSimpArgs false
def usedL (xs : List DInode) : List Int := (xs.map (·.blocks)).flatten
def sortI (l : List Int) : List Int := l.mergeSort (fun x y => decide (x ≤ y))
theorem sortI_perm (l : List Int) : (sortI l).Perm l := List.mergeSort_perm ..
theorem sortI_len (l : List Int) : (sortI l).length = l.length := (sortI_perm l).length_eq
theorem sortI_mem {l : List Int} {a : Int} : a ∈ sortI l ↔ a ∈ l := (sortI_perm l).mem_iff
theorem sortI_sorted (l : List Int) : (sortI l).Pairwise (· ≤ ·) := by
  have := List.pairwise_mergeSort (le := fun (x y : Int) => decide (x ≤ y)) (fun a b c h k => by simp at *; omega) (fun a b => by simp; omega) l
  exact this.imp (fun h => by simpa using h)
theorem usedL_take {xs : List DInode} {k : Nat} {x : DInode} (h : xs[k]? = some x) : usedL (xs.take k) ++ x.blocks = usedL (xs.take (k + 1)) := by
  unfold usedL
  rw [← take_snoc h]
  simp
/-- No two neighbours are equal: in a sorted list, no two at all. -/
theorem compact_len (zs : List Int) : (Lib.compact zs).length ≤ zs.length := by
  unfold Lib.compact Lib.compactUpTo
  rw [List.length_map]
  exact Nat.le_trans (List.length_filter_le _ _) (by simp)
theorem compact_nodup {zs : List Int} (h : zs.Nodup) : (Lib.compact zs).length = zs.length := by
  rw [Lib.compact_all zs]
  intro j hj
  by_cases h0 : j = 0
  · simp [Lib.keeps, h0]
  · refine Lib.keeps_pos ?_
    rw [getElem!_pos zs.toArray j (by simpa using hj), getElem!_pos zs.toArray (j - 1) (by simp; omega)]
    intro e
    have := List.pairwise_iff_getElem.1 (List.nodup_iff_pairwise_ne.1 h) (j - 1) j (by omega) hj (by omega)
    exact this (by simpa using e.symm)
theorem compact_dup {zs : List Int} (hs : zs.Pairwise (· ≤ ·)) (h : ¬ zs.Nodup) : (Lib.compact zs).length < zs.length := by
  -- a place whose left neighbour holds the same
  have hex : ∃ j, 0 < j ∧ ∃ h1 : j < zs.length, zs[j] = zs[j - 1] := by
    apply Classical.byContradiction
    intro hno
    apply h
    have hlt : ∀ (d i : Nat) (h1 : i + d + 1 < zs.length), zs[i] < zs[i + d + 1] := by
      intro d
      induction d with
      | zero =>
        intro i h1
        have h2 : zs[i] ≤ zs[i + 1] := List.pairwise_iff_getElem.1 hs i (i + 1) (by omega) h1 (by omega)
        have h3 : zs[i + 1] ≠ zs[i] := fun e => hno ⟨i + 1, by omega, h1, by simpa using e⟩
        simp only [Nat.add_zero]
        omega
      | succ d ih =>
        intro i h1
        have h2 := ih i (by omega)
        have h4 : zs[i + d + 1] ≤ zs[i + d + 1 + 1] := List.pairwise_iff_getElem.1 hs (i + d + 1) (i + d + 1 + 1) (by omega) (by omega) (by omega)
        have e : i + (d + 1) + 1 = i + d + 1 + 1 := by omega
        simp only [e]
        omega
    rw [List.nodup_iff_pairwise_ne, List.pairwise_iff_getElem]
    intro i j hi hj hij
    have := hlt (j - i - 1) i (by omega)
    have e : i + (j - i - 1) + 1 = j := by omega
    simp only [e] at this
    omega
  obtain ⟨j, hj0, hj, he⟩ := hex
  have hk : Lib.keeps zs.toArray j = false := by
    refine Lib.keeps_neg hj0 ?_
    rw [getElem!_pos zs.toArray j (by simpa using hj), getElem!_pos zs.toArray (j - 1) (by simp; omega)]
    simpa using he
  unfold Lib.compact Lib.compactUpTo
  rw [List.length_map]
  have := List.length_filter_lt_length_iff_exists (l := List.range zs.length) (p := Lib.keeps zs.toArray)
  rw [List.length_range] at this
  exact this.2 ⟨j, List.mem_range.2 hj, by rw [hk]; exact Bool.false_ne_true⟩
theorem compact_iff (l : List Int) : ((Lib.compact (sortI l)).length = (sortI l).length) ↔ l.Nodup := by
  constructor
  · intro h
    apply Classical.byContradiction
    intro hn
    have := compact_dup (sortI_sorted l) (fun h2 => hn ((sortI_perm l).nodup_iff.1 h2))
    omega
  · intro h
    exact compact_nodup ((sortI_perm l).nodup_iff.2 h)
/-! ### how often -/
def oneB (a b : Int) : Nat := if b = a then 1 else 0
def cntB (a : Int) (x : DInode) : Nat := sumF (oneB a) x.blocks
def countB (xs : List DInode) (a : Int) : Nat := sumF (cntB a) xs
theorem sumF_app {α : Type} (f : α → Nat) : ∀ xs ys : List α, sumF f (xs ++ ys) = sumF f xs + sumF f ys
  | [], ys => by simp [sumF]
  | x :: xs, ys => by simp only [List.cons_append, sumF, sumF_app f xs ys]; omega
theorem sum_count (a : Int) : ∀ l : List Int, sumF (oneB a) l = l.count a
  | [] => rfl
  | b :: l => by
    simp only [sumF, sum_count a l, List.count_cons, oneB, beq_iff_eq]
    omega
theorem countB_eq (a : Int) : ∀ xs : List DInode, countB xs a = (usedL xs).count a
  | [] => rfl
  | x :: xs => by
    have ih := countB_eq a xs
    unfold countB usedL at ih ⊢
    simp only [sumF, List.map_cons, List.flatten_cons, List.count_append, ← ih, cntB, sum_count]
theorem blocks_4 {x : DInode} (h : inodeFault x = 0) : x.blocks.length ≤ 4 ∧ ∀ b, b ∈ x.blocks → 0 ≤ b ∧ b ≤ 19 := by
  unfold inodeFault at h
  split at h
  · split at h
    · exact absurd h (by decide)
    · rename_i h1 h2
      split at h
      · unfold fileFault at h
        split at h
        · split at h
          · split at h
            · exact absurd h (by decide)
            · rename_i h3 h4 h5
              refine ⟨by omega, fun b hb => ?_⟩
              simp only [List.any_eq_true, not_exists, not_and] at h5
              have := h5 b hb
              simpa using this
          · exact absurd h (by decide)
        · exact absurd h (by decide)
      · have h0 : x.blocks.length = 0 := by omega
        exact ⟨by omega, fun b hb => by rw [List.length_eq_zero_iff.1 h0] at hb; cases hb⟩
  · exact absurd h (by decide)
theorem usedL_mem {xs : List DInode} (h : inodesFault xs = 0) {b : Int} (hb : b ∈ usedL xs) : 0 ≤ b ∧ b ≤ 19 := by
  unfold usedL at hb
  obtain ⟨l, hl, hb⟩ := List.mem_flatten.1 hb
  obtain ⟨x, hx, rfl⟩ := List.mem_map.1 hl
  exact (blocks_4 (inodes_all h x hx)).2 b hb
theorem usedL_len {xs : List DInode} (h : ∀ x, x ∈ xs → inodeFault x = 0) : (usedL xs).length ≤ xs.length * 4 := by
  induction xs with
  | nil => simp [usedL]
  | cons x xs ih =>
    have h1 := (blocks_4 (h x List.mem_cons_self)).1
    have h2 := ih (fun y hy => h y (List.mem_cons_of_mem _ hy))
    unfold usedL at h2 ⊢
    simp only [List.map_cons, List.flatten_cons, List.length_append, List.length_cons]
    omega
theorem usedL_40 {xs : List DInode} (h : inodesFault xs = 0) (k : Nat) : (usedL (xs.take k)).length ≤ 40 := by
  have h1 := usedL_len (xs := xs.take k) (fun x hx => inodes_all h x (List.mem_of_mem_take hx))
  have h2 := inodes_10 h
  rw [List.length_take] at h1
  omega
theorem count_40 {xs : List DInode} (h : inodesFault xs = 0) (a : Int) : countB xs a ≤ 40 := by
  rw [countB_eq]
  have := usedL_40 h xs.length
  rw [List.take_length] at this
  exact Nat.le_trans List.count_le_length this
/-! ### the places 0 .. k - 1 that are so -/
def placesTo (p : Int → Bool) (k : Nat) : List Int := ((List.range k).map (fun i : Nat => (i : Int))).filter p
theorem placesTo_on {p : Int → Bool} {k : Nat} (h : p (k : Int) = true) : placesTo p k ++ [(k : Int)] = placesTo p (k + 1) := by
  unfold placesTo
  rw [List.range_succ]
  simp [h]
theorem placesTo_off {p : Int → Bool} {k : Nat} (h : p (k : Int) = false) : placesTo p k = placesTo p (k + 1) := by
  unfold placesTo
  rw [List.range_succ]
  simp [h]
theorem placesTo_len {p : Int → Bool} {k : Nat} : (placesTo p k).length ≤ k := by
  unfold placesTo
  exact Nat.le_trans (List.length_filter_le _ _) (by simp)
theorem placesTo_mem {p : Int → Bool} {k : Nat} {a : Int} : a ∈ placesTo p k ↔ (0 ≤ a ∧ a < k) ∧ p a = true := by
  unfold placesTo
  rw [List.mem_filter, List.mem_map]
  constructor
  · rintro ⟨⟨i, hi, rfl⟩, hp⟩
    have := List.mem_range.1 hi
    exact ⟨⟨by omega, by omega⟩, hp⟩
  · rintro ⟨⟨h1, h2⟩, hp⟩
    exact ⟨⟨a.toNat, List.mem_range.2 (by omega), by omega⟩, hp⟩
theorem placesTo_lt {p : Int → Bool} {k : Nat} : (placesTo p k).Pairwise (· < ·) := by
  unfold placesTo
  refine List.Pairwise.filter _ ?_
  rw [List.pairwise_map]
  exact List.pairwise_lt_range.imp (fun h => by omega)
theorem placesTo_congr {p q : Int → Bool} {k : Nat} (h : ∀ a : Int, 0 ≤ a → a < k → p a = q a) : placesTo p k = placesTo q k := by
  unfold placesTo
  refine List.filter_congr fun a ha => ?_
  obtain ⟨i, hi, rfl⟩ := List.mem_map.1 ha
  have := List.mem_range.1 hi
  exact h _ (by omega) (by omega)
def onceTo (xs : List DInode) (k : Nat) : Prop := ∀ j, j < k → countB xs (j : Int) ≤ 1
instance (xs : List DInode) (k : Nat) : Decidable (onceTo xs k) := by unfold onceTo; infer_instance
theorem onceTo_s {xs : List DInode} {k : Nat} : onceTo xs (k + 1) ↔ onceTo xs k ∧ countB xs (k : Int) ≤ 1 := by
  unfold onceTo
  constructor
  · intro h
    exact ⟨fun j hj => h j (by omega), h k (by omega)⟩
  · rintro ⟨h1, h2⟩ j hj
    by_cases hk : j = k
    · subst hk; exact h2
    · exact h1 j (by omega)
theorem onceTo_20 {xs : List DInode} (h : inodesFault xs = 0) : onceTo xs 20 ↔ (usedL xs).Nodup := by
  rw [List.nodup_iff_count]
  constructor
  · intro ho a
    by_cases ha : a ∈ usedL xs
    · have hb := usedL_mem h ha
      have := ho a.toNat (by omega)
      rw [show ((a.toNat : Nat) : Int) = a by omega, countB_eq] at this
      exact this
    · rw [List.count_eq_zero_of_not_mem ha]; omega
  · intro hn j _
    rw [countB_eq]
    exact hn _
abbrev usedP (xs : List DInode) : Int → Bool := fun a => decide (0 < countB xs a)
theorem used_sorted {xs : List DInode} (h : inodesFault xs = 0) (hn : (usedL xs).Nodup) : placesTo (usedP xs) 20 = sortI (usedL xs) := by
  refine List.Perm.eq_of_pairwise (le := (· ≤ ·)) (fun a b _ _ h1 h2 => Int.le_antisymm h1 h2) (placesTo_lt.imp (fun h => Int.le_of_lt h)) (sortI_sorted _) ?_
  refine (List.perm_ext_iff_of_nodup (placesTo_lt.imp (fun h => Int.ne_of_lt h)) ((sortI_perm _).nodup_iff.2 hn)).2 fun a => ?_
  rw [placesTo_mem, sortI_mem, decide_eq_true_iff, countB_eq, List.count_pos_iff]
  exact ⟨fun h => h.2, fun ha => ⟨by have := usedL_mem h ha; omega, ha⟩⟩
def usedR (xs : List DInode) : RInts := if inodesFault xs = 0 then if (usedL xs).Nodup then ⟨0, sortI (usedL xs)⟩ else ⟨7, []⟩ else ⟨inodesFault xs, []⟩
theorem usedR_f {xs : List DInode} (h : ¬ inodesFault xs = 0) : usedR xs = ⟨inodesFault xs, []⟩ := if_neg h
theorem usedR_7 {xs : List DInode} (h : inodesFault xs = 0) (h2 : ¬ (usedL xs).Nodup) : usedR xs = ⟨7, []⟩ := by unfold usedR; rw [if_pos h, if_neg h2]
theorem usedR_0 {xs : List DInode} (h : inodesFault xs = 0) (h2 : (usedL xs).Nodup) : usedR xs = ⟨0, sortI (usedL xs)⟩ := by unfold usedR; rw [if_pos h, if_pos h2]
theorem usedR_s {xs : List DInode} (h : inodesFault xs = 0) (h2 : (usedL xs).Nodup) : usedR xs = ⟨0, placesTo (usedP xs) 20⟩ := by rw [usedR_0 h h2, used_sorted h h2]
abbrev freeP (xs : List DInode) (busy : List Int) : Int → Bool := fun b => decide (¬ b ∈ usedL xs ∧ ¬ b ∈ busy)
theorem count_0 {xs : List DInode} {a : Int} : (countB xs a : Int) = 0 ↔ ¬ a ∈ usedL xs := by
  rw [countB_eq]
  constructor
  · intro h ha
    have := List.count_pos_iff.2 ha
    omega
  · intro h
    rw [List.count_eq_zero_of_not_mem h]
    rfl
def freeTo (xs : List DInode) (busy : List Int) : List Int := placesTo (freeP xs busy) 20
def askFault (xs : List DInode) (busy : List Int) : Int := if inodesFault xs = 0 then busyFault busy else inodesFault xs
theorem ask_ok {xs : List DInode} {busy : List Int} (h : askFault xs busy = 0) : inodesFault xs = 0 := by
  unfold askFault at h
  split at h
  · assumption
  · exact h
def freeR (xs : List DInode) (busy : List Int) : RInts := if askFault xs busy = 0 then ⟨0, freeTo xs busy⟩ else ⟨askFault xs busy, []⟩
theorem freeR_f {xs : List DInode} {busy : List Int} (h : ¬ askFault xs busy = 0) : freeR xs busy = ⟨askFault xs busy, []⟩ := if_neg h
theorem freeR_0 {xs : List DInode} {busy : List Int} (h : askFault xs busy = 0) : freeR xs busy = ⟨0, freeTo xs busy⟩ := if_pos h
def pickOf (xs : List DInode) (busy : List Int) (n : Int) : RInts := if 0 ≤ n ∧ n ≤ 4 then if ((freeTo xs busy).length : Int) < n then ⟨8, []⟩ else ⟨0, (freeTo xs busy).take n.toNat⟩ else ⟨3, []⟩
theorem pickOf_3 {xs : List DInode} {busy : List Int} {n : Int} (h : ¬ (0 ≤ n ∧ n ≤ 4)) : pickOf xs busy n = ⟨3, []⟩ := if_neg h
theorem pickOf_8 {xs : List DInode} {busy : List Int} {n : Int} (h : 0 ≤ n ∧ n ≤ 4) (h2 : ((freeTo xs busy).length : Int) < n) : pickOf xs busy n = ⟨8, []⟩ := by unfold pickOf; rw [if_pos h, if_pos h2]
theorem pickOf_0 {xs : List DInode} {busy : List Int} {n : Int} (h : 0 ≤ n ∧ n ≤ 4) (h2 : ¬ ((freeTo xs busy).length : Int) < n) : pickOf xs busy n = ⟨0, (freeTo xs busy).take n.toNat⟩ := by unfold pickOf; rw [if_pos h, if_neg h2]
def pickR (xs : List DInode) (busy : List Int) (n : Int) : RInts := if askFault xs busy = 0 then pickOf xs busy n else ⟨askFault xs busy, []⟩
theorem pickR_f {xs : List DInode} {busy : List Int} {n : Int} (h : ¬ askFault xs busy = 0) : pickR xs busy n = ⟨askFault xs busy, []⟩ := if_neg h
theorem pickR_0 {xs : List DInode} {busy : List Int} {n : Int} (h : askFault xs busy = 0) : pickR xs busy n = pickOf xs busy n := if_pos h
end Go.Proofs.YtbfcpfmhmhklnaaDoor
/- What is proved: the library's contracts of Sort and Compact over rows of numbers, told of one's own slice. No condition. -/
namespace Go.Proofs.YtbfcpfmhmhklnaaDoor
open Go Go.RowKit
open Go.Sort (putRow grow putCells mapBlock)
set_option linter.unusedVariables false
set_option linter.unusedSimpArgs false
theorem kint_cells {k : IntKind} {w : World} {S : Bs} : ∀ {zs : List Int} {css : List (List Value)}, css.length = zs.length → Star (seqA (kint k) zs css) w S → css = zs.map (fun z => [Value.int k z])
  | [], [], _, _ => rfl
  | z :: zs, c :: css, hl, h => by
    have h1 : (kint k).own w S z c := h.head (c := ownA (kint k) z c)
    rw [kint_cells (by simpa using hl) (h.drop (c := ownA (kint k) z c)), List.map_cons, h1.1]
  | [], _ :: _, hl, _ => by simp at hl
  | _ :: _, [], hl, _ => by simp at hl
theorem kint_seq {k : IntKind} {w : World} {S : Bs} : ∀ zs : List Int, Star (seqA (kint k) zs (zs.map (fun z => [Value.int k z]))) w S
  | [] => trivial
  | z :: zs => ⟨fun _ => False, S, ⟨rfl, trivial⟩, kint_seq zs, fun _ h => h.elim, fun _ h => h, fun _ h => h.elim⟩
theorem flat1 {k : IntKind} (zs : List Int) : (zs.map (fun z => [Value.int k z])).flatten = zs.map (Value.int k) := by
  induction zs with
  | nil => rfl
  | cons z zs ih => simp [ih]
/-- A row of numbers of one's own: its block, as the library's contracts ask. -/
theorem own_holds {e by_ : Nat} {w : World} {S : Bs} {zs : List Int} {v : Value} (h : (kslice e by_ (kint .i64)).own w S zs [v]) (hp : 0 < zs.length) :
    ∃ g c, v = .slice (some ⟨g, 0, none⟩) zs.length c ∧ zs.length ≤ c ∧ g < w.heap.size ∧ Go.Sort.Holds (Value.int .i64) w g 0 zs.toArray ∧ zs.length * by_ ≤ 140737488355328 ∧ c ≤ 9223372036854775807 ∧
      ∀ (zs' : List Int) (n : Nat) (os : Array Obj), zs'.length = zs.length → (kslice e by_ (kint .i64)).own (grow (putRow (Value.int .i64) (Sort.ahead w n) g 0 zs'.toArray) os) S zs' [v] ∧ Fr w S (grow (putRow (Value.int .i64) (Sort.ahead w n) g 0 zs'.toArray) os) := by
  rcases h with ⟨A, h1, rfl⟩ | ⟨g, c, css, h1, h2, h3, h4, h5, h6⟩
  · exact absurd hp (by simp)
  obtain rfl : v = .slice (some ⟨g, 0, none⟩) zs.length c := by simpa using h1
  obtain ⟨S1, S2, ⟨hg, cur, k1, k2, k3, k4⟩, hseq, a1, a2, a3⟩ := h6
  have hcss := kint_cells h5 hseq
  subst hcss
  rw [flat1] at k3 k4
  simp only [List.length_map] at k3 k4
  have hlt : g < w.heap.size := (Array.getElem?_eq_some_iff.1 k1).1
  have hcell : ∀ j, j < zs.length → cur[j]? = some (.int .i64 (zs[j]!)) := fun j hj => by
    have : (cur.toList.take zs.length)[j]? = (zs.map (Value.int .i64))[j]? := by rw [k4]
    rw [List.getElem?_take, if_pos hj, List.getElem?_map, List.getElem?_eq_getElem hj] at this
    rw [Array.getElem?_toList] at this
    rw [this, getElem!_pos zs j hj]
    rfl
  refine ⟨g, c, rfl, h2, hlt, fun j hj => ⟨?_, ?_⟩, h4, h3, fun zs' n os hl => ?_⟩
  · have hj' : j < zs.length := by simpa using hj
    rw [cell_of_row w g (0 + j) cur e (0, 0) k1, Nat.zero_add, hcell j hj']
    simp [getElem!_pos zs j hj', getElem!_pos zs.toArray j hj]
  · simp [World.frozen?, k1]
  · have hb : (grow (putRow (Value.int .i64) (Sort.ahead w n) g 0 zs'.toArray) os).heap[g]? = some (.cells (putCells (Value.int .i64) 0 zs'.toArray cur) e (0, 0)) := by
      simp only [grow, putRow, mapBlock, Sort.ahead]
      rw [Array.getElem?_append_left (by simpa using hlt), Array.getElem?_modify, if_pos rfl, k1]
      rfl
    have ho : ∀ b, b < w.heap.size → b ≠ g → (grow (putRow (Value.int .i64) (Sort.ahead w n) g 0 zs'.toArray) os).heap[b]? = w.heap[b]? := fun b hb hne => by
      simp only [grow, putRow, mapBlock, Sort.ahead]
      rw [Array.getElem?_append_left (by simpa using hb), Array.getElem?_modify, if_neg (fun e => hne e.symm)]
    have hsz : w.heap.size ≤ (grow (putRow (Value.int .i64) (Sort.ahead w n) g 0 zs'.toArray) os).heap.size := by simp [grow, putRow, mapBlock, Sort.ahead]
    have hfr : Fr w S (grow (putRow (Value.int .i64) (Sort.ahead w n) g 0 zs'.toArray) os) := ⟨rfl, rfl, rfl, hsz, fun b hb hn => ho b hb (fun e => hn (e ▸ a1 g hg))⟩
    refine ⟨.inr ⟨g, c, zs'.map (fun z => [Value.int .i64 z]), by rw [hl], by omega, h3, by rw [hl]; exact h4, by simp, ?_⟩, hfr⟩
    refine ⟨S1, fun _ => False, ⟨hg, _, hb, ?_, ?_, ?_⟩, kint_seq zs', a1, fun _ h => h.elim, fun _ _ h => h⟩
    · simpa [putCells] using k2
    · rw [flat1]
      simp only [putCells, Array.size_mapIdx, List.length_map]
      omega
    · rw [flat1]
      apply List.ext_getElem?
      intro j
      rw [List.getElem?_take, List.length_map]
      split
      · rename_i hj
        have hjc : j < cur.size := by omega
        rw [Array.getElem?_toList, putCells, Array.getElem?_mapIdx, Array.getElem?_eq_getElem hjc, Option.map_some, if_pos ⟨by omega, by simpa using hj⟩, List.getElem?_map, List.getElem?_eq_getElem hj, Option.map_some]
        simp [getElem!_pos zs'.toArray j (by simpa using hj)]
      · rw [List.getElem?_eq_none (by rw [List.length_map]; omega)]
theorem own_zero {e by_ : Nat} {w : World} {S : Bs} {zs : List Int} {v : Value} (h : (kslice e by_ (kint .i64)).own w S zs [v]) (hp : ¬ 0 < zs.length) : zs = [] ∧ ∃ A c, v = .slice A 0 c := by
  have h0 : zs = [] := List.length_eq_zero_iff.1 (by omega)
  subst h0
  obtain ⟨A, c, h1, _⟩ := own_form h
  exact ⟨rfl, A, c, by simpa using h1⟩
/-- Sorting. -/
theorem sort_con {P : Program} {f : FuncId} {e by_ : Nat} {w0 : World} {S0 : Bs} {zs : List Int} {v0 : Value}
    (h1 : ∀ (blk off cap : Nat) (zs : List Int) (w : World), Go.Sort.Holds (Value.int .i64) w blk off zs.toArray → blk < w.heap.size → zs.length < 4611686018427387904 → Calls P f #[.slice (some ⟨blk, off, none⟩) zs.length cap] w fun e w' => e = .returned (.tuple #[]) ∧ ∃ n os, w' = grow (putRow (Value.int .i64) (Sort.ahead w n) blk off (zs.mergeSort fun x y => decide (x ≤ y)).toArray) os)
    (h2 : ∀ (p : Option Addr) (cap : Nat) (w : World), Calls P f #[.slice p 0 cap] w fun e w' => e = .returned (.tuple #[]) ∧ w' = w) (h8 : 8 ≤ by_)
    (hs : Star [ownA (kslice e by_ (kint .i64)) zs [v0]] w0 S0) : Calls P f #[v0] w0 (TriPost w0 S0 (fun r l => r = .tuple #[] ∧ l = [ownA (kslice e by_ (kint .i64)) (sortI zs) [v0]])) := by
  have ho : (kslice e by_ (kint .i64)).own w0 S0 zs [v0] := hs.head (c := ownA (kslice e by_ (kint .i64)) zs [v0])
  by_cases hp : 0 < zs.length
  · obtain ⟨g, c, rfl, g1, g2, g3, g4, g5, g6⟩ := own_holds ho hp
    have hb : zs.length * 8 ≤ zs.length * by_ := Nat.mul_le_mul_left _ h8
    refine (h1 g 0 c zs w0 g3 g2 (by omega)).mono fun e' w' ⟨he, n, os, hw⟩ => ?_
    obtain ⟨k1, k2⟩ := g6 (sortI zs) n os (sortI_len zs)
    have hw' : w' = grow (putRow (Value.int .i64) (Sort.ahead w0 n) g 0 (sortI zs).toArray) os := hw
    subst hw'
    exact ⟨_, _, he, ⟨rfl, rfl⟩, S0, Star.one (c := ownA (kslice e by_ (kint .i64)) (sortI zs) _) k1, fun b hb => .inl hb, k2⟩
  · obtain ⟨rfl, A, c, rfl⟩ := own_zero ho hp
    refine (h2 A c w0).mono fun e' w' ⟨he, hw⟩ => ?_
    subst hw
    have e0 : sortI [] = [] := by simp [sortI]
    exact ⟨_, _, he, ⟨rfl, rfl⟩, S0, by rw [e0]; exact hs, fun b hb => .inl hb, Fr.refl _ _⟩
theorem grow_nil (w : World) : grow w #[] = w := by cases w; simp [grow]
/-- Compact: how many stay. -/
theorem compact_con {P : Program} {f : FuncId} {e by_ : Nat} {w0 : World} {S0 : Bs} {zs : List Int} {v0 : Value}
    (h1 : ∀ (blk off cap : Nat) (zs : List Int) (w : World), Go.Sort.Holds (Value.int .i64) w blk off zs.toArray → zs.length ≤ 9223372036854775807 → zs.length ≤ cap → Calls P f #[.slice (some ⟨blk, off, none⟩) zs.length cap] w fun e w' => e = .returned (.slice (some ⟨blk, off, none⟩) (Lib.compact zs).length cap) ∧ ∃ q, w' = putRow (Value.int .i64) (Sort.ahead w q) blk off (Lib.compact zs ++ List.replicate (zs.length - (Lib.compact zs).length) 0).toArray)
    (h2 : ∀ (a : Option Addr) (cap : Nat) (w : World), Calls P f #[.slice a 0 cap] w fun e w' => e = .returned (.slice a 0 cap) ∧ w' = w)
    (hs : Star [ownA (kslice e by_ (kint .i64)) zs [v0]] w0 S0) : Calls P f #[v0] w0 (TriPost w0 S0 (fun r l => ∃ z : Option Addr × Nat, r = .slice z.1 (Lib.compact zs).length z.2 ∧ l = [])) := by
  have ho : (kslice e by_ (kint .i64)).own w0 S0 zs [v0] := hs.head (c := ownA (kslice e by_ (kint .i64)) zs [v0])
  by_cases hp : 0 < zs.length
  · obtain ⟨g, c, rfl, g1, g2, g3, g4, g5, g6⟩ := own_holds ho hp
    refine (h1 g 0 c zs w0 g3 (by omega) g1).mono fun e' w' ⟨he, q, hw⟩ => ?_
    obtain ⟨k1, k2⟩ := g6 (Lib.compact zs ++ List.replicate (zs.length - (Lib.compact zs).length) 0) q #[] (by have := compact_len zs; simp; omega)
    have hw' : w' = grow (putRow (Value.int .i64) (Sort.ahead w0 q) g 0 (Lib.compact zs ++ List.replicate (zs.length - (Lib.compact zs).length) 0).toArray) #[] := by rw [hw, grow_nil]
    subst hw'
    exact ⟨_, _, he, ⟨(_, _), rfl, rfl⟩, S0, trivial, fun b hb => .inl hb, k2⟩
  · obtain ⟨rfl, A, c, rfl⟩ := own_zero ho hp
    refine (h2 A c w0).mono fun e' w' ⟨he, hw⟩ => ?_
    subst hw
    have e0 : (Lib.compact ([] : List Int)).length = 0 := rfl
    exact ⟨_, _, he, ⟨(A, c), by rw [e0], rfl⟩, S0, trivial, fun b hb => .inl hb, Fr.refl _ _⟩
theorem FJ.chEq {N : Nat} {w0 : World} {S0 : Bs} {F : Act → World → Prop} {T : Slots} {l l' : List Asn} {c c' : Asn} (h : Take l c l') (e : c = c') (k : FJ N w0 S0 F T (c' :: l')) : FJ N w0 S0 F T l := by subst e; exact FJ.take h k
/-! ### the head of a slice of one's own -/
theorem own_take {α : Type} {K : Kd α} {e by_ n c : Nat} {xs : List α} {A : Option Addr} (hn : n ≤ xs.length) (w : World) (S : Bs) (h : Star [ownA (kslice e by_ K) xs [.slice A xs.length c]] w S) : (ownA (kslice e by_ K) (xs.take n) [.slice A n c]).p w S := by
  have hl : (xs.take n).length = n := by rw [List.length_take]; omega
  rcases (show (kslice e by_ K).own w S xs [.slice A xs.length c] from h.head (c := ownA (kslice e by_ K) xs _)) with ⟨A', h1, rfl⟩ | ⟨g, c', css, h1, h2, h3, h4, h5, h6⟩
  · obtain rfl : n = 0 := by simpa using hn
    injection h1 with h1 _
    injection h1 with h1 h2 h3
    subst h3
    exact .inl ⟨A, rfl, rfl⟩
  · injection h1 with h1 _
    injection h1 with h1 _ h3'
    subst h1; subst h3'
    obtain ⟨S1, S2, ⟨hg, cur, k1, k2, k3, k4⟩, hseq, a1, a2, a3⟩ := h6
    have hlc := seq_len h5 hseq
    have hft := flatten_take hlc n
    refine .inr ⟨g, c, css.take n, by rw [hl], by omega, h3, ?_, by rw [List.length_take, List.length_take, h5], ?_⟩
    · rw [hl]; exact Nat.le_trans (Nat.mul_le_mul_right _ hn) h4
    · refine ⟨S1, S2, ⟨hg, cur, k1, k2, ?_, ?_⟩, ?_, a1, a2, a3⟩
      · rw [hft, List.length_take]; omega
      · rw [hft, List.length_take]
        have : cur.toList.take (min (n * K.sz) css.flatten.length) = (cur.toList.take css.flatten.length).take (n * K.sz) := by rw [List.take_take]
        rw [this, k4]
      · have : seqA K (xs.take n) (css.take n) = (seqA K xs css).take n := by simp [seqA, List.take_zipWith]
        rw [this]
        exact Star.sublist (List.take_sublist _ _) hseq
theorem own_take' {α : Type} {K : Kd α} {e by_ n c : Nat} {xs : List α} {A : Option Addr} (hn : n ≤ xs.length) (w : World) (S : Bs) (h : Star [ownA (kslice e by_ K) xs [.slice A xs.length c]] w S) : (ownA (kslice e by_ K) (xs.take n) [.slice A (xs.take n).length c]).p w S := by
  have := own_take hn w S h
  rwa [show (xs.take n).length = n by rw [List.length_take]; omega]
theorem WS.ocap {w0 : World} {S0 : Bs} {l l' : List Asn} {α : Type} {K : Kd α} {e by_ : Nat} {xs : List α} {A : Option Addr} {n c : Nat} (ht : Take l (ownA (kslice e by_ K) xs [.slice A n c]) l') : ∀ w, WS w0 S0 l w → n = xs.length ∧ n ≤ c ∧ c ≤ 9223372036854775807 ∧ n * by_ ≤ 140737488355328 := fun w hw => by
  obtain ⟨A', c', h, h1, h2, h3⟩ := WS.oform ht w hw
  injection h with _ h4 h5
  subst h4; subst h5
  exact ⟨rfl, h1, h2, h3⟩
section
variable {P : Program} {T : Slots} {Wd : World → Prop} {o : Oper}
theorem q_sliceTake {x : Operand} {t e : TypeId} {sz b n c : Nat} {z : Operand} {k : IntKind} {A : Option Addr} (ho : o.op = .slice t x none (some z) none) (ht : P.underlying t = some (.slice e)) (he : (P.info? e).map (·.size) = some sz) (hx : Val T x (.slice A n c)) (hz : Val T z (.int k (b : Int))) (h : b ≤ c) : Quiet P o T Wd (.slice A b c) := by
  have := q_slice (a := 0) (b := b) (Wd := Wd) ho ht he hx (.inl ⟨rfl, rfl⟩) (.inr ⟨_, _, rfl, hz⟩) (by omega) h
  have e1 : (if c = 0 then A else A.map (·.add (0 * sz))) = A := by
    split
    · rfl
    · cases A with
      | none => rfl
      | some a => simp [Addr.add]
  rw [e1] at this
  simpa using this
end
end Go.Proofs.YtbfcpfmhmhklnaaDoor
/- What is proved: small laws for what draws numbers from bytes. No condition. -/
namespace Go.Proofs.YtbfcpfmhmhklnaaDoor
open Go Go.RowKit
theorem tmod_in {x n : Int} (hx : 0 ≤ x) (hn : 1 ≤ n) : 0 ≤ Int.tmod x n ∧ Int.tmod x n < n :=
  ⟨Int.tmod_nonneg _ hx, Int.tmod_lt_of_pos _ (by omega)⟩
theorem div_in {x n : Int} (hx : 0 ≤ x) (hn : 1 ≤ n) : 0 ≤ x / n ∧ x / n ≤ x :=
  ⟨Int.ediv_nonneg hx (by omega), Int.ediv_le_self _ hx⟩
theorem src_hl {α : Type} {K : Kd α} {e by_ : Nat} {w : World} {F : Bs} {xs : List α} {A : Option Addr} {c : Nat} (h : (kslice e by_ K).ro w F xs [.slice A xs.length c]) : xs.length ≤ c ∧ c ≤ 9223372036854775807 ∧ xs.length * by_ ≤ 140737488355328 := by
  obtain ⟨A', c', hv, h1, h2, h3, _⟩ := ro_form h
  cases hv
  exact ⟨h1, h2, h3⟩
end Go.Proofs.YtbfcpfmhmhklnaaDoor
/- What is proved: the names that are drawn have no fault. No condition. -/
namespace Go.Proofs.YtbfcpfmhmhklnaaDoor
open Go
theorem names_ok6 : ∀ s : ByteArray, s ∈ ([⟨#[97]⟩, ⟨#[98]⟩, ⟨#[99]⟩, ⟨#[100]⟩, ⟨#[97, 98]⟩, ⟨#[104, 97, 108, 108]⟩] : List ByteArray) → nameFault s = 0 := by decide
theorem drawn_sz : ∀ s : ByteArray, s ∈ ([⟨#[97]⟩, ⟨#[97, 98, 99, 100]⟩, ⟨#[97, 98, 99, 100, 101]⟩, ⟨#[]⟩, ⟨#[65]⟩, ⟨#[97, 47]⟩, ⟨#[122, 122]⟩, ⟨#[97, 98, 99, 100, 69]⟩] : List ByteArray) → s.size ≤ 100 := by decide
theorem drawn_tx : ∀ s : ByteArray, s ∈ ([⟨#[]⟩, ⟨#[97]⟩, ⟨#[47, 97, 47]⟩, ⟨#[47, 47]⟩, ⟨#[47, 65]⟩, ⟨#[47, 97, 98, 99, 100, 101]⟩, ⟨#[47, 97, 47, 98, 47, 99, 47, 100, 47, 97, 47, 98, 47, 99]⟩, ⟨#[47, 97, 32, 98]⟩, ⟨#[47, 104, 97, 108, 108, 47, 104, 97, 108, 108, 47, 104, 97, 108, 108, 47, 104, 97, 108, 108, 47, 104, 97, 108, 108, 47, 104, 97, 108, 108]⟩, ⟨#[47, 104, 97, 108, 108, 47, 104, 97, 108, 108, 47, 104, 97, 108, 108, 47, 104, 97, 108, 108, 47, 104, 97, 108, 108, 47, 104, 97, 108, 108, 115]⟩] : List ByteArray) → s.size ≤ 100 := by decide
end Go.Proofs.YtbfcpfmhmhklnaaDoor
/- What is proved: nothing: weights and marks of the data types. No condition. -/
namespace Go.Proofs.YtbfcpfmhmhklnaaDoor
set_option linter.unusedVariables false
def wt_RText (x : RText) : Nat := 0 + x.text.size
def cnt_RText (x : RText) : Nat := 1 + 1
def mark_RText (n : Int) (x : RText) : RText := ⟨n, (mtext (n + 1))⟩
def vcnt_RText (x : RText) : Nat := 0 + 0
def vmark_RText (n : Int) (x : RText) : RText := ⟨x.code, x.text⟩
def wt_RNames (x : RNames) : Nat := 0 + (x.names.length + sumF (fun x => x.size) x.names)
def cnt_RNames (x : RNames) : Nat := 1 + x.names.length
def mark_RNames (n : Int) (x : RNames) : RNames := ⟨n, ((markL (fun _ => 1) (fun m _ => mtext m)) (n + 1) x.names)⟩
def vcnt_RNames (x : RNames) : Nat := 0 + x.names.length
def vmark_RNames (n : Int) (x : RNames) : RNames := ⟨x.code, ((markL (fun _ => 1) (fun m _ => mtext m)) n x.names)⟩
def wt_DSrc (x : DSrc) : Nat := x.code.length + 0
def cnt_DSrc (x : DSrc) : Nat := x.code.length + 1
def mark_DSrc (n : Int) (x : DSrc) : DSrc := ⟨((markL (fun _ => 1) (fun m _ => mbyte m)) n x.code), (n + (x.code.length : Int))⟩
def vcnt_DSrc (x : DSrc) : Nat := x.code.length + 0
def vmark_DSrc (n : Int) (x : DSrc) : DSrc := ⟨((markL (fun _ => 1) (fun m _ => mbyte m)) n x.code), x.at_⟩
end Go.Proofs.YtbfcpfmhmhklnaaDoor
/- What is proved: a path is joined again from its names, and is below its parent: plain Lean. No condition. -/
namespace Go.Proofs.YtbfcpfmhmhklnaaDoor
open Go
set_option linter.unusedVariables false
set_option linter.unusedSimpArgs false
theorem joinL_cut : ∀ l : List UInt8, joinL ((cutL l).map bstr) = 47 :: l
  | [] => rfl
  | b :: l => by
    have ih := joinL_cut l
    unfold cutL
    split
    · rename_i h; subst h
      simp only [List.map_cons, joinL, List.flatten_cons] at ih ⊢
      rw [ih]; rfl
    · cases hc : cutL l with
      | nil => exact absurd hc (cutL_ne l)
      | cons p ps =>
        rw [hc] at ih
        simp only [List.map_cons, joinL, List.flatten_cons, List.cons_append, bstr] at ih ⊢
        simp only [List.cons.injEq, true_and] at ih
        rw [ih]
theorem name_ne {s : ByteArray} (h : nameFault s = 0) : ∀ b, b ∈ s.data.toList → b ≠ 47 := fun b hb e => by
  unfold nameFault at h
  split at h
  · rename_i hl
    subst e
    revert hl
    intro hl
    first
      | (have := (List.all_eq_true.1 hl) 47 hb; revert this; decide)
      | (have := hl 47 hb; revert this; decide)
  · exact absurd h (by decide)
theorem cut_join : ∀ {xs : List ByteArray}, (∀ s, s ∈ xs → nameFault s = 0) → ∀ x, nameFault x = 0 → cutL (x.data.toList ++ joinL xs) = (x :: xs).map (·.data.toList)
  | [], _, x, hx => by
    have : joinL [] = [] := rfl
    rw [this, List.append_nil, cutL_no (name_ne hx)]; rfl
  | y :: ys, h, x, hx => by
    have ih := cut_join (xs := ys) (fun s hs => h s (by simp [hs])) y (h y (by simp))
    have e : joinL (y :: ys) = 47 :: (y.data.toList ++ joinL ys) := by simp [joinL]
    rw [e]
    have hn : (x.data.toList ++ 47 :: (y.data.toList ++ joinL ys))[x.data.toList.length]? = some 47 := by simp
    have ha : ∀ (j : Nat) b, j < x.data.toList.length → (x.data.toList ++ 47 :: (y.data.toList ++ joinL ys))[j]? = some b → b ≠ 47 := fun j b hj hb => by
      rw [List.getElem?_append_left hj] at hb
      exact name_ne hx b (List.mem_of_getElem? hb)
    rw [cutL_at ha hn]
    simp only [List.take_left', List.map_cons]
    rw [show (x.data.toList ++ 47 :: (y.data.toList ++ joinL ys)).drop (x.data.toList.length + 1) = y.data.toList ++ joinL ys by
      rw [← List.drop_drop, List.drop_left']
      · rfl
      · rfl]
    rw [ih]
    simp
theorem tail_data (s : ByteArray) : (tailB s).data.toList = s.data.toList.drop 1 := by
  rw [tailB, Lib.extract_data, List.take_of_length_le]
  rw [List.length_drop, str_len]; exact Nat.le_refl _
theorem join_split {s : ByteArray} (h : splitC s = 0) : joinB (splitN s) = s := by
  by_cases h2 : s = sl1
  · rw [splitN, if_neg (by simp [h2]), h2]; rfl
  · have h3 : splitN s = cutB (tailB s) := by rw [splitN, if_pos ⟨h, h2⟩]
    have hb : ¬ badP s := by
      intro hb
      unfold splitC at h
      rw [if_neg h2, if_pos hb] at h
      split at h <;> exact absurd h (by decide)
    rw [h3, joinB, if_neg (cutB_ne _), cutB, joinL_cut, tail_data]
    have h0 : s.data.toList[0]? = some 47 := by
      by_cases h0 : s.data.toList[0]? = some 47
      · exact h0
      · exact absurd (.inl h0) hb
    have : (47 : UInt8) :: s.data.toList.drop 1 = s.data.toList := by
      cases hs : s.data.toList with
      | nil => rw [hs] at h0; simp at h0
      | cons a l => rw [hs] at h0; simp at h0; subst h0; rfl
    rw [this]; exact bstr_data s
theorem last_join : ∀ {xs : List ByteArray}, (∀ s, s ∈ xs → nameFault s = 0) → xs ≠ [] → (joinL xs)[(joinL xs).length - 1]? ≠ some 47
  | [], _, h => absurd rfl h
  | x :: xs, h, _ => by
    have hx := h x (by simp)
    have h4 := (name_4 hx).2
    rw [← str_len] at h4
    by_cases hxs : xs = []
    · subst hxs
      intro e
      have e1 : joinL [x] = 47 :: x.data.toList := by simp [joinL]
      rw [e1] at e
      have : ((47 : UInt8) :: x.data.toList)[(x.data.toList.length - 1) + 1]? = some 47 := by
        rw [show x.data.toList.length - 1 + 1 = ((47 : UInt8) :: x.data.toList).length - 1 by simp only [List.length_cons]; omega]; exact e
      rw [List.getElem?_cons_succ] at this
      exact name_ne hx 47 (List.mem_of_getElem? this) rfl
    · have ih := last_join (xs := xs) (fun s hs => h s (by simp [hs])) hxs
      intro e
      have e1 : joinL (x :: xs) = (47 :: x.data.toList) ++ joinL xs := by simp [joinL]
      have hp : 0 < (joinL xs).length := by
        cases xs with
        | nil => exact absurd rfl hxs
        | cons y ys => simp [joinL]
      rw [e1, List.length_append, List.getElem?_append_right (by omega)] at e
      refine ih ?_
      rw [← e]
      congr 1
      omega
theorem split_join {xs : List ByteArray} (h : ∀ s, s ∈ xs → nameFault s = 0) (hl : xs.length ≤ 6) : splitC (joinB xs) = 0 ∧ splitN (joinB xs) = xs := by
  cases hxs : xs with
  | nil =>
    have e : joinB [] = sl1 := rfl
    rw [e]
    exact split_r (by decide) rfl
  | cons x r =>
    rw [hxs] at h hl
    have hj := joinL_len h
    have e : joinB (x :: r) = bstr (joinL (x :: r)) := if_neg (by simp)
    have hd : (bstr (joinL (x :: r))).data.toList = joinL (x :: r) := by simp [bstr]
    have hsz : (bstr (joinL (x :: r))).size = (joinL (x :: r)).length := by rw [← str_len, hd]
    have ej : joinL (x :: r) = 47 :: (x.data.toList ++ joinL r) := by simp [joinL]
    have hc : cutB (tailB (bstr (joinL (x :: r)))) = x :: r := by
      rw [cutB, tail_data, hd, ej]
      simp only [List.drop_succ_cons, List.drop_zero]
      rw [cut_join (fun s hs => h s (by simp [hs])) x (h x (by simp)), List.map_map]
      have : (bstr ∘ fun s : ByteArray => s.data.toList) = id := by funext s; exact bstr_data s
      rw [this, List.map_id]
    have hx1 := (name_4 (h x (by simp))).2
    have hx2 := str_len x
    rw [e]
    have := split_0 (s := bstr (joinL (x :: r))) (by rw [hsz]; omega)
      (fun e2 => by
        have : (bstr (joinL (x :: r))).size = 1 := by rw [e2]; rfl
        rw [hsz, ej] at this
        simp only [List.length_cons, List.length_append] at this
        omega)
      (nbad2 (by rw [hd, ej]; rfl) (by rw [hd, hsz]; exact last_join h (by simp)))
      (by
        rw [hc]
        exact namesC_0 (k := (x :: r).length) (by omega) (fun j s _ hs => h s (List.mem_of_getElem? hs)) (Nat.le_refl _))
    exact ⟨this.1, this.2.trans hc⟩
theorem split_nil {s : ByteArray} (h : splitC s = 0) : splitN s = [] ↔ s = sl1 := by
  constructor
  · intro e
    have := join_split h
    rw [e] at this
    exact this.symm
  · intro e
    rw [splitN, if_neg (by simp [e])]
/-- All that the law asks of a path. -/
theorem path_law (s : ByteArray) :
    (¬ (splitR s).code = 0 → (parentR s).code = (splitR s).code ∧ belowB s ⟨#[47]⟩ = false) ∧
    ((splitR s).code = 0 → (joinR (splitR s).names).text = s ∧ ((parentR s).code = 4 ↔ s = ⟨#[47]⟩) ∧ (lastR s).code = (parentR s).code ∧ (¬ (parentR s).code = 0 → (splitR s).names = [])) ∧
    ((splitR s).code = 0 → (parentR s).code = 0 → belowB s (parentR s).text = true ∧ belowB (parentR s).text s = false ∧ nameFault (lastR s).text = 0) ∧
    ((splitR s).code = 0 → (parentR s).code = 0 → 1 ≤ (splitR s).names.length ∧ (∀ (j : Nat) x, j = (splitR s).names.length - 1 → (splitR s).names[j]? = some x → x = (lastR s).text) ∧ (splitR (parentR s).text).names.length = (splitR s).names.length - 1) := by
  have hp : (parentR s).code = lastC s := by unfold parentR; split <;> simp [*]
  have hq : (lastR s).code = lastC s := by unfold lastR; split <;> simp [*]
  rw [hp, hq]
  simp only [splitR]
  have ok := splitN_ok s
  refine ⟨fun h => ⟨(last_c h).1, below_n fun hh => h hh.1⟩, fun h => ⟨?_, ?_, trivial, ?_⟩, fun h h2 => ?_, fun h h2 => ?_⟩
  · rw [joinR_0 (namesC_0 (k := (splitN s).length) (by omega) (fun j x _ hx => ok.2 x (List.mem_of_getElem? hx)) (Nat.le_refl _))]
    exact join_split h
  · show lastC s = 4 ↔ s = sl1
    rw [← split_nil h]
    by_cases e : splitN s = []
    · simp [(last_4 h e).1, e]
    · simp [(last_0 h e).1, e]
  · intro h3
    by_cases e : splitN s = []
    · exact e
    · exact absurd (last_0 h e).1 h3
  · have e : ¬ splitN s = [] := fun e => by rw [(last_4 h e).1] at h2; exact absurd h2 (by decide)
    obtain ⟨-, e2, e3⟩ := last_0 h e
    have hlen : 1 ≤ (splitN s).length := by
      cases hs : splitN s with
      | nil => exact absurd hs e
      | cons => simp
    obtain ⟨x, hx⟩ : ∃ x, (splitN s)[(splitN s).length - 1]? = some x := ⟨_, List.getElem?_eq_getElem (by omega)⟩
    have hT := e3 _ x rfl hx
    have lok := lastN_ok s
    obtain ⟨s1, s2⟩ := split_join lok.2 lok.1
    have ep : (parentR s).text = joinB (lastN s) := by rw [parentR_0 h2]
    have el : (lastR s).text = lastT s := by rw [lastR_0 h2]
    have eln : (lastN s).length = (splitN s).length - 1 := by rw [e2, List.length_take]; omega
    rw [ep, el]
    refine ⟨?_, ?_, ?_⟩
    · rw [below_t h s1 (by rw [s2, eln]; omega), s2, eln, e2]; simp
    · exact below_n fun hh => by rw [s2, eln] at hh; omega
    · rw [hT]; exact ok.2 x (List.mem_of_getElem? hx)
  · have e : ¬ splitN s = [] := fun e => by rw [(last_4 h e).1] at h2; exact absurd h2 (by decide)
    obtain ⟨-, e2, e3⟩ := last_0 h e
    have hlen : 1 ≤ (splitN s).length := by
      cases hs : splitN s with
      | nil => exact absurd hs e
      | cons => simp
    have lok := lastN_ok s
    obtain ⟨s1, s2⟩ := split_join lok.2 lok.1
    have ep : (parentR s).text = joinB (lastN s) := by rw [parentR_0 h2]
    have el : (lastR s).text = lastT s := by rw [lastR_0 h2]
    refine ⟨hlen, fun j x hj hx => by rw [el]; exact (e3 j x hj hx).symm, ?_⟩
    rw [ep, s2, e2, List.length_take]; omega
end Go.Proofs.YtbfcpfmhmhklnaaDoor

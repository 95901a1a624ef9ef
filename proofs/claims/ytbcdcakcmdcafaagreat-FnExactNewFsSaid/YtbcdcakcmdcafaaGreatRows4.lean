/- What is proved: elements taken out of a slice of one's own, in place. No condition. -/
import Derived.Test.YtbcdcakcmdcafaaGreatRows3
namespace Go.Proofs.YtbcdcakcmdcafaaGreat
open Go Go.RowKit
set_option linter.unusedVariables false
set_option linter.unusedSimpArgs false
theorem Star.sublist {l l' : List Asn} (h : l'.Sublist l) : ∀ {w : World} {S : Bs}, Star l w S → Star l' w S := by
  induction h with
  | slnil => exact fun h => h
  | cons c _ ih => exact fun h => ih h.drop
  | cons_cons c _ ih =>
    intro w S ⟨A, B, h1, h2, a, b, d⟩
    exact ⟨A, B, h1, ih h2, a, b, d⟩
theorem seq_cut {α : Type} {K : Kd α} {xs : List α} {css : List (List Value)} {w : World} {S : Bs} {i j : Nat} (hl : css.length = xs.length) (hij : i ≤ j) (h : Star (seqA K xs css) w S) : Star (seqA K (xs.take i ++ xs.drop j) (css.take i ++ css.drop j)) w S := by
  have e : seqA K (xs.take i ++ xs.drop j) (css.take i ++ css.drop j) = (seqA K xs css).take i ++ (seqA K xs css).drop j := by
    unfold seqA
    rw [List.zipWith_append (by simp [hl]), List.take_zipWith, List.drop_zipWith]
  rw [e]
  refine Star.sublist ?_ h
  have : (seqA K xs css).take i ++ (seqA K xs css).drop i = seqA K xs css := List.take_append_drop _ _
  conv => rhs; rw [← this]
  exact List.Sublist.append (List.Sublist.refl _) (List.drop_sublist_drop_left _ hij)
theorem flatten_take {css : List (List Value)} {n : Nat} (hl : ∀ c, c ∈ css → c.length = n) (i : Nat) : (css.take i).flatten = css.flatten.take (i * n) := by
  induction css generalizing i with
  | nil => simp
  | cons d css ih =>
    have hd := hl d List.mem_cons_self
    cases i with
    | zero => simp
    | succ i =>
      simp only [List.take_succ_cons, List.flatten_cons]
      rw [ih (fun c hc => hl c (List.mem_cons_of_mem _ hc)) i, List.take_append, List.take_of_length_le (l := d) (by rw [hd, Nat.succ_mul]; omega), hd, Nat.succ_mul, Nat.add_sub_cancel]
theorem flatten_drop {css : List (List Value)} {n : Nat} (hl : ∀ c, c ∈ css → c.length = n) (i : Nat) : (css.drop i).flatten = css.flatten.drop (i * n) := by
  induction css generalizing i with
  | nil => simp
  | cons d css ih =>
    have hd := hl d List.mem_cons_self
    cases i with
    | zero => simp
    | succ i =>
      simp only [List.drop_succ_cons, List.flatten_cons]
      rw [ih (fun c hc => hl c (List.mem_cons_of_mem _ hc)) i, List.drop_append, List.drop_of_length_le (l := d) (by rw [hd, Nat.succ_mul]; omega), hd, List.nil_append, Nat.succ_mul, Nat.add_sub_cancel]
section
variable {P : Program} {T : Slots} {Wd : World → Prop} {o : Oper} {N : Nat} {w0 : World} {S0 : Bs} {l l' lk : List Asn}
/-- append(s[:i], s[j:]...) over one row: what is between is gone. -/
theorem e_appendSelf {α : Type} {K : Kd α} {e by_ i j c : Nat} {xs : List α} {ad : Addr} {A' : Option Addr} {z : Option Value} {s x : Operand} {t : TypeId} (ho : o.op = .call { callee := .builtin .append, args := #[s, x], argTypes := #[t, t] }) (ht : P.underlying t = some (.slice e))
    (hi : (P.info? e).map (fun i => (i.size, i.bytes, i.zero)) = some (K.sz, by_, z)) (hs : Val T s (.slice (some ad) i c)) (hx : Val T x (.slice A' (xs.length - j) (c - j))) (hA : A' = (if c = j then some ad else some (ad.add (j * K.sz))))
    (hT : Takes l [ownA (kslice e by_ K) xs [.slice (some ad) xs.length c]] l') (hij : i ≤ j) (hj : j ≤ xs.length) :
    Eff P o T w0 S0 l (fun r l2 => r = .slice (some ad) (xs.take i ++ xs.drop j).length c ∧ l2 = ownA (kslice e by_ K) (xs.take i ++ xs.drop j) [r] :: l') := by
  intro a w ha hw
  obtain ⟨S1, hA1, tr, hk⟩ := (hw.takes hT).eff
  obtain ⟨i0, k1, k2⟩ := Option.map_eq_some_iff.1 hi
  obtain ⟨k2, k3⟩ := Prod.mk.inj k2
  have hlen : (xs.take i ++ xs.drop j).length = i + (xs.length - j) := by simp; omega
  rcases (show (kslice e by_ K).own w S1 xs [.slice (some ad) xs.length c] from hA1.head) with ⟨A, h, rfl⟩ | ⟨g, c', css, h, h1, h2, h3, h4, h5⟩
  · -- nothing is there
    have h' := List.singleton_inj.1 h
    injection h' with e1 e2 e3
    subst e3
    have hj0 : j = 0 := by simpa using hj
    subst hj0
    have hi0 : i = 0 := by omega
    subst hi0
    simp only [if_true] at hA
    subst hA
    refine ⟨.slice (some ad) 0 0, w, _, ?_, ⟨rfl, rfl⟩, hk w [ownA (kslice e by_ K) ([].take 0 ++ [].drop 0) [.slice (some ad) 0 0]] S1 (Star.one (c := ownA (kslice e by_ K) _ _) (.inl ⟨some ad, rfl, rfl⟩)) (fun b hb => .inl hb) (Fr.refl _ _)⟩
    have hx' : a.eval x = .slice (some ad) 0 0 := hx a ha
    rw [exec_append ho (hs a ha) hx', append_none ht k1 (some ad) 0 0 (Nat.le_refl _) _ ⟨_, _, rfl⟩ w]; rfl
  · have h' := List.singleton_inj.1 h
    injection h' with e1 e2 e3
    obtain rfl := Option.some.inj e1
    subst e3
    obtain ⟨B1, B2, ⟨hg, cur, q1, q2, q3, q4⟩, hseq, i1, i2, dd⟩ := h5
    have hlc := seq_len h4 hseq
    have hfl : css.flatten.length = xs.length * K.sz := by rw [flatten_len hlc, h4]
    have hcut := seq_cut (i := i) (j := j) h4 hij hseq
    have hclen : (css.take i ++ css.drop j).length = (xs.take i ++ xs.drop j).length := by simp [h4]
    have hx3 : (xs.take i ++ xs.drop j).length * by_ ≤ 140737488355328 := by
      have : (xs.take i ++ xs.drop j).length * by_ ≤ xs.length * by_ := Nat.mul_le_mul_right _ (by omega)
      omega
    by_cases hm : xs.length - j = 0
    · have hje : j = xs.length := by omega
      subst hje
      refine ⟨.slice (some ⟨g, 0, none⟩) i c, w, _, ?_, ⟨by rw [hlen, hm]; rfl, rfl⟩, hk w [ownA (kslice e by_ K) (xs.take i ++ xs.drop xs.length) [.slice (some ⟨g, 0, none⟩) i c]] S1 (Star.one (c := ownA (kslice e by_ K) _ _) (.inr ⟨g, c, css.take i ++ css.drop xs.length, by rw [hlen, hm]; rfl, by rw [hlen]; omega, h2, hx3, hclen, B1, B2, ⟨hg, cur, q1, q2, ?_, ?_⟩, hcut, i1, i2, dd⟩)) (fun b hb => .inl hb) (Fr.refl _ _)⟩
      · have hx' := hx a ha
        rw [hm] at hx'
        rw [exec_append ho (hs a ha) hx', append_none ht k1 (some ⟨g, 0, none⟩) i c (by omega) _ ⟨_, _, rfl⟩ w]; rfl
      · rw [← h4, List.drop_length, List.append_nil, flatten_take hlc, List.length_take]; omega
      · rw [← h4, List.drop_length, List.append_nil, flatten_take hlc]
        have hle : i * K.sz ≤ css.flatten.length := by rw [hfl]; exact Nat.mul_le_mul_right _ (by omega)
        rw [List.length_take, Nat.min_eq_left hle, ← q4, List.take_take, Nat.min_eq_left (by rw [q4] at *; exact hle)]
    · rw [if_neg (by omega)] at hA
      subst hA
      have hnl : (css.drop j).flatten.length = (xs.length - j) * K.sz := by rw [flatten_drop hlc, List.length_drop, hfl, Nat.sub_mul]
      have hone : ∀ u, u ∈ (css.drop j).flatten → u.oneCell' = true := by
        intro u hu
        obtain ⟨d, hd, hu⟩ := List.mem_flatten.1 hu
        exact (seq_ones h4 hseq d (List.mem_of_mem_drop hd)).2 u hu
      have hroom : i + (xs.length - j) ≤ c := by omega
      have hmul : (i + (xs.length - j)) * K.sz ≤ c * K.sz := Nat.mul_le_mul_right _ hroom
      rw [Nat.add_mul] at hmul
      have hr := run_append_room (P := P) w t o.type e i0 ht k1 g i c cur q1 ((⟨g, 0, none⟩ : Addr).add (j * K.sz)) (xs.length - j) (c - j) (css.drop j).flatten (by rw [k2]; exact hnl)
        (fun q u hu => by
          rw [add_add, add_plain', flatten_drop hlc, List.getElem?_drop] at *
          exact row_cell (S := B1) (sz := K.sz) (c := c) ⟨hg, cur, q1, q2, q3, q4⟩ hu) hone hroom (by rw [k2, hnl, q2]; exact hmul)
      rw [k2] at hr
      have htk : cur.toList.take (i * K.sz) = (css.take i).flatten := by
        rw [flatten_take hlc, ← q4, List.take_take, Nat.min_eq_left]
        rw [hfl]; exact Nat.mul_le_mul_right _ (by omega)
      rw [htk] at hr
      have hne : ∀ b, b ≠ g → (w.setRow g ((css.take i).flatten ++ (css.drop j).flatten ++ cur.toList.drop (i * K.sz + (css.drop j).flatten.length)).toArray).heap[b]? = w.heap[b]? := fun b hb => setRow_other w g b _ hb
      have hti : (css.take i).flatten.length = i * K.sz := by rw [flatten_take hlc, List.length_take, Nat.min_eq_left]; rw [hfl]; exact Nat.mul_le_mul_right _ (by omega)
      refine ⟨_, _, _, ?_, ⟨by rw [hlen], rfl⟩, hk _ [ownA (kslice e by_ K) (xs.take i ++ xs.drop j) [.slice (some ⟨g, 0, none⟩) (i + (xs.length - j)) c]] S1 (Star.one (c := ownA (kslice e by_ K) _ _) (.inr ⟨g, c, css.take i ++ css.drop j, by rw [hlen], by rw [hlen]; exact hroom, h2, hx3, hclen, B1, B2, ⟨hg, _, setRow_heap w g cur _ e _ q1, ?_, ?_, ?_⟩, hcut.loc (fun b hb => hne b (fun e => dd g hg (e ▸ hb))), i1, i2, dd⟩)) (fun b hb => .inl hb) ⟨rfl, rfl, rfl, by simp, fun b hb hn => hne b (fun e => hn (e ▸ i1 g hg))⟩⟩
      · rw [exec_append ho (hs a ha) (hx a ha), hr]; rfl
      · simp only [List.size_toArray, List.length_append, List.length_drop, Array.length_toList, hti, hnl]; omega
      · simp only [List.size_toArray, List.length_append, List.flatten_append]; omega
      · simp only [List.flatten_append]; exact List.take_left
theorem q_sliceHi {x : Operand} {t e : TypeId} {sz b n c : Nat} {z : Operand} {k : IntKind} {ad : Addr} (ho : o.op = .slice t x none (some z) none) (ht : P.underlying t = some (.slice e)) (he : (P.info? e).map (·.size) = some sz) (hx : Val T x (.slice (some ad) n c)) (hz : Val T z (.int k (b : Int))) (h : b ≤ c) : Quiet P o T Wd (.slice (some ad) b c) := by
  have h0 := q_slice (Wd := Wd) (a := 0) (b := b) ho ht he hx (.inl ⟨rfl, rfl⟩) (.inr ⟨z, k, rfl, hz⟩) (Nat.zero_le _) h
  have e1 : (some ad).map (·.add (0 * sz)) = some ad := by rw [Nat.zero_mul]; simp [Addr.add]
  rw [e1, ite_self, Nat.sub_zero, Nat.sub_zero] at h0
  exact h0
/-- An effect whose value nobody asks for. -/
theorem FJ.ev {o : Oper} {F F' : Act → World → Prop} {R : Value → List Asn → Prop} (hG : Goes P N T o F F') (hd : o.dst = none) (he : Eff P o T w0 S0 l R) (h : ∀ v l', R v l' → FJ N w0 S0 F' T l') : FJ N w0 S0 F T l := by
  intro a w h1 h2 h3 h4
  obtain ⟨v, w', l', hr, hR, hw⟩ := he a w h3 h4
  refine hG.value a w v w' h2 h3 hr ?_
  rw [hd]
  exact h v l' hR _ w' h1 h2 h3 hw
/-- clear of what lies behind a slice's own elements. -/
theorem e_clearTail {α : Type} {K : Kd α} {e by_ k c : Nat} {ys : List α} {ad : Addr} {A' : Option Addr} {z : Value} {x : Operand} {t : TypeId} (ho : o.op = .call { callee := .builtin .clear, args := #[x], argTypes := #[t] }) (ht : P.underlying t = some (.slice e))
    (hi : (P.info? e).map (fun i => (i.size, i.bytes, i.zero)) = some (K.sz, by_, some z)) (hz : z.cells.size = K.sz) (hz1 : ∀ u, u ∈ z.cells.toList → u.oneCell' = true) (hx : Val T x (.slice A' k (c - ys.length))) (hA : A' = (if c = ys.length then some ad else some (ad.add (ys.length * K.sz))))
    (hT : Takes l [ownA (kslice e by_ K) ys [.slice (some ad) ys.length c]] l') (hk : ys.length + k ≤ c) :
    Eff P o T w0 S0 l (fun r l2 => l2 = ownA (kslice e by_ K) ys [.slice (some ad) ys.length c] :: l') := by
  intro a w ha hw
  obtain ⟨S1, hA1, tr, hkk⟩ := (hw.takes hT).eff
  obtain ⟨i0, k1, k2⟩ := Option.map_eq_some_iff.1 hi
  obtain ⟨k2, k3⟩ := Prod.mk.inj k2
  obtain ⟨k3, k4⟩ := Prod.mk.inj k3
  have hexec : ∀ w', (Builtin.clear_ #[t] o.type #[.slice A' k (c - ys.length)]).run P w = .ok (.tuple #[]) w' → (execOp a.eval o).run P w = .ok (.value (.tuple #[])) w' := fun w' h => by
    simp only [execOp, ho]
    simp [resolve, hx a ha, invoke, builtin, h]
  by_cases hk0 : k = 0
  · subst hk0
    refine ⟨.tuple #[], w, _, hexec w ?_, rfl, hkk w [ownA (kslice e by_ K) ys [.slice (some ad) ys.length c]] S1 (Star.one hA1.head) (fun b hb => .inl hb) (Fr.refl _ _)⟩
    cases A' <;> simp [Builtin.clear_, run_underlying ht]
  rw [if_neg (by omega)] at hA
  subst hA
  rcases (show (kslice e by_ K).own w S1 ys [.slice (some ad) ys.length c] from hA1.head) with ⟨A, h, rfl⟩ | ⟨g, c', css, h, h1, h2, h3, h4, h5⟩
  · have h' := List.singleton_inj.1 h
    injection h' with e1 e2 e3
    omega
  · have h' := List.singleton_inj.1 h
    injection h' with e1 e2 e3
    obtain rfl := Option.some.inj e1
    subst e3
    obtain ⟨B1, B2, ⟨hg, cur, q1, q2, q3, q4⟩, hseq, i1, i2, dd⟩ := h5
    have hlc := seq_len h4 hseq
    have hfl : css.flatten.length = ys.length * K.sz := by rw [flatten_len hlc, h4]
    have hzl : (Builtin.zeroCells z.cells k).toList.length = k * K.sz := by rw [Array.length_toList, size_zeroCells, hz]
    have hmul : (ys.length + k) * K.sz ≤ c * K.sz := Nat.mul_le_mul_right _ hk
    rw [Nat.add_mul] at hmul
    have hone : ∀ u, u ∈ (Builtin.zeroCells z.cells k).toList → u.oneCell' = true := by
      intro u hu
      have hu' : u ∈ (madeCells z.cells (k * z.cells.size)).toList := hu
      rw [madeCells_flat _ _ (by rw [hz]; exact K.pos)] at hu'
      obtain ⟨d, hd, hu2⟩ := List.mem_flatten.1 hu'
      rw [(List.mem_replicate.1 hd).2] at hu2
      exact hz1 u hu2
    have hcur : cur.toList.length = cur.size := Array.length_toList
    have hst := run_storeCells_at P g (ys.length * K.sz) e (Builtin.zeroCells z.cells k).toList 0 cur w q1 (by rw [hzl]; omega) hone
    simp only [Nat.add_zero, hzl] at hst
    have hne : ∀ b, b ≠ g → (w.setRow g (cur.toList.take (ys.length * K.sz) ++ (Builtin.zeroCells z.cells k).toList ++ cur.toList.drop (ys.length * K.sz + k * K.sz)).toArray).heap[b]? = w.heap[b]? := fun b hb => setRow_other w g b _ hb
    refine ⟨.tuple #[], _, _, hexec _ ?_, rfl, hkk _ [ownA (kslice e by_ K) ys [.slice (some ⟨g, 0, none⟩) ys.length c]] S1 (Star.one (c := ownA (kslice e by_ K) _ _) (.inr ⟨g, c, css, rfl, h1, h2, h3, h4, B1, B2, ⟨hg, _, setRow_heap w g cur _ e _ q1, ?_, ?_, ?_⟩, hseq.loc (fun b hb => hne b (fun e => dd g hg (e ▸ hb))), i1, i2, dd⟩)) (fun b hb => .inl hb) ⟨rfl, rfl, rfl, by simp, fun b hb hn => hne b (fun e => hn (e ▸ i1 g hg))⟩⟩
    · rw [add_plain']
      simp [Builtin.clear_, run_underlying ht, hk0, zeroValue, typeInfo, k1, k4, hst]
    · simp only [List.size_toArray, List.length_append, List.length_take, List.length_drop, Array.length_toList, hzl]; omega
    · simp only [List.size_toArray, List.length_append, List.length_take, List.length_drop, Array.length_toList, hzl]; omega
    · rw [hfl, List.append_assoc, List.take_append_of_le_length (by rw [List.length_take]; omega), List.take_take, Nat.min_self, ← hfl]
      exact q4
end
end Go.Proofs.YtbcdcakcmdcafaaGreat

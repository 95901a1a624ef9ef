/- What is proved: a slice of one's own opened up in the middle, and the gap filled; zeros appended; two slices apart. No condition. -/
import Derived.Test.YticaddophhggoaaGreatBase2
import Derived.Lib.Overlaps
import Derived.Lib.AppendZerosOnto
import Derived.Test.YticaddophhggoaaGreatBase1
namespace Go.Proofs.YticaddophhggoaaGreat
open Go Go.RowKit
set_option linter.unusedVariables false
set_option linter.unusedSimpArgs false
/-- A row of one's own whose middle is open: what stood ahead of i, then m elements that are not told, then what stood from i on. -/
def gapA {α : Type} (K : Kd α) (g e c : Nat) (xs : List α) (i m : Nat) : Asn where
  p w S := S g ∧ ∃ (cur : Array Value) (css : List (List Value)), w.heap[g]? = some (.cells cur e (0, 0)) ∧ cur.size = c * K.sz ∧ css.length = xs.length ∧ (∀ d, d ∈ css → d.length = K.sz) ∧ (∀ w' S', Star (seqA K xs css) w' S') ∧
    cur.toList.take (i * K.sz) = (css.take i).flatten ∧ (cur.toList.drop ((i + m) * K.sz)).take ((xs.length - i) * K.sz) = (css.drop i).flatten
  up h hs := ⟨hs _ h.1, h.2⟩
  loc := by rintro w w' S ⟨h, cur, css, h1, h2⟩ hs; exact ⟨h, cur, css, by rw [hs g h]; exact h1, h2⟩
  lt := by rintro w S ⟨h, cur, css, h1, h2⟩; exact ⟨⟨h, (Array.getElem?_eq_some_iff.1 h1).1⟩, cur, css, h1, h2⟩
theorem ins_grow {α : Type} {xs ys : List α} {x0 : α} {i k : Nat} (hi : i < xs.length) (hk : k = xs.length + ys.length - i) :
    ((((xs.take i ++ List.replicate k x0).take i ++ ys ++ (xs.take i ++ List.replicate k x0).drop (i + ys.length)).take (i + ys.length)) ++ subL xs i xs.length ++ (((xs.take i ++ List.replicate k x0).take i ++ ys ++ (xs.take i ++ List.replicate k x0).drop (i + ys.length)).drop (i + ys.length + (subL xs i xs.length).length))) = xs.take i ++ ys ++ xs.drop i := by
  have h1 : (xs.take i).length = i := by rw [List.length_take]; omega
  have h2 : (xs.take i ++ List.replicate k x0).take i = xs.take i := List.take_left' h1
  have h3 : (xs.take i ++ ys).length = i + ys.length := by rw [List.length_append, h1]
  have h4 : (subL xs i xs.length).length = xs.length - i := subL_len (Nat.le_refl _)
  rw [h2, List.take_left' h3, h4]
  have h5 : subL xs i xs.length = xs.drop i := by unfold subL; rw [List.take_length]
  rw [h5]
  have h6 : (xs.take i ++ ys ++ (xs.take i ++ List.replicate k x0).drop (i + ys.length)).drop (i + ys.length + (xs.length - i)) = [] := by
    apply List.drop_of_length_le
    simp only [List.length_append, List.length_drop, List.length_replicate, h1]
    omega
  rw [h6, List.append_nil]
theorem ins_end {α : Type} {xs ys : List α} {i : Nat} (h : (i : Int) = (xs.length : Int)) : xs ++ ys = xs.take i ++ ys ++ xs.drop i := by
  rw [show i = xs.length by omega, List.take_length, List.drop_length, List.append_nil]
section
variable {P : Program} {T : Slots} {o : Oper} {w0 : World} {S0 : Bs} {l l' : List Asn}
theorem exec_copy {x s : Operand} {t t' : TypeId} {a : Act} {w w' : World} {u v r : Value} (ho : o.op = .call { callee := .builtin .copy, args := #[x, s], argTypes := #[t, t'] }) (hx : a.eval x = u) (hs : a.eval s = v) (h : (Builtin.copy_ #[t, t'] o.type #[u, v]).run P w = .ok r w') : (execOp a.eval o).run P w = .ok (.value r) w' := by
  simp only [execOp, ho, hx, hs]
  simp [resolve, hx, hs, invoke, builtin, h]
theorem e_copyGap {α : Type} {K : Kd α} (hK : Flat K) {e by_ i m c c1 c2 : Nat} {xs : List α} {ad : Addr} {A1 A2 : Option Addr} {x s : Operand} {t t' : TypeId} (ho : o.op = .call { callee := .builtin .copy, args := #[x, s], argTypes := #[t, t'] }) (ht : P.underlying t = some (.slice e))
    (hi : (P.info? e).map (·.size) = some K.sz) (hx : Val T x (.slice A1 (xs.length - i) c1)) (h1A : A1 = (if c = i + m then some ad else some (ad.add ((i + m) * K.sz)))) (hs : Val T s (.slice A2 (xs.length + m - i) c2)) (h2A : A2 = (if c = i then some ad else some (ad.add (i * K.sz))))
    (hT : Takes l [ownA (kslice e by_ K) xs [.slice (some ad) xs.length c]] l') (hil : i < xs.length) (hm : 0 < m) (hc : xs.length + m ≤ c) :
    Eff P o T w0 S0 l (fun r l2 => ∃ g, ad = ⟨g, 0, none⟩ ∧ r = .int .i64 ((xs.length - i : Nat) : Int) ∧ l2 = gapA K g e c xs i m :: l') := by
  intro a w ha hw
  obtain ⟨S1, hA1, tr, hkk⟩ := (hw.takes hT).eff
  obtain ⟨i0, k1, k2⟩ := Option.map_eq_some_iff.1 hi
  rcases (show (kslice e by_ K).own w S1 xs [.slice (some ad) xs.length c] from hA1.head) with ⟨A, hv, rfl⟩ | ⟨g, cc, css, hv, h1, h2, h3, h4, h5⟩
  · simp only [List.length_nil] at hil; omega
  have hv' := List.singleton_inj.1 hv
  injection hv' with e1 e2 e3
  obtain rfl := Option.some.inj e1
  subst e3
  obtain ⟨B1, B2, ⟨hg, cur, q1, q2, q3, q4⟩, hseq, i1, i2, dd⟩ := h5
  have hlc := seq_len h4 hseq
  have hfl : css.flatten.length = xs.length * K.sz := by rw [flatten_len hlc, h4]
  have hdr : (css.drop i).flatten = css.flatten.drop (i * K.sz) := flatten_drop hlc i
  have hld : (css.drop i).flatten.length = (xs.length - i) * K.sz := by rw [hdr, List.length_drop, hfl, Nat.sub_mul]
  have hone : ∀ u, u ∈ (css.drop i).flatten → u.oneCell' = true := fun u hu => by
    obtain ⟨d, hd, hu2⟩ := List.mem_flatten.1 hu
    exact (seq_ones h4 hseq d (List.mem_of_mem_drop hd)).2 u hu2
  have hcz : (xs.length + m) * K.sz ≤ c * K.sz := Nat.mul_le_mul_right _ hc
  have hiz : i * K.sz ≤ xs.length * K.sz := Nat.mul_le_mul_right _ (by omega)
  have hsum : (xs.length - i) * K.sz + i * K.sz = xs.length * K.sz := by rw [← Nat.add_mul]; congr 1; omega
  have him : (i + m) * K.sz = i * K.sz + m * K.sz := Nat.add_mul ..
  have hnm : (xs.length + m) * K.sz = xs.length * K.sz + m * K.sz := Nat.add_mul ..
  have hpos := K.pos
  have hcur : cur.toList.length = cur.size := Array.length_toList
  have hlA : A1 = some ((⟨g, 0, none⟩ : Addr).add ((i + m) * K.sz)) := by rw [h1A, if_neg (by omega)]
  have hlB : A2 = some ((⟨g, 0, none⟩ : Addr).add (i * K.sz)) := by rw [h2A, if_neg (by omega)]
  have hst := run_storeCells_at P g ((i + m) * K.sz) e (css.drop i).flatten 0 cur w q1 (by omega) hone
  simp only [Nat.add_zero, hld] at hst
  have hcell : ∀ j u, (css.drop i).flatten[j]? = some u → w.cell? (((⟨g, 0, none⟩ : Addr).add (i * K.sz)).add j) = some u := fun j u hu => by
    rw [hdr, List.getElem?_drop] at hu
    rw [add_add, add_plain']
    exact row_cell (S := B1) ⟨hg, cur, q1, q2, q3, q4⟩ hu
  have hfc := run_firstCells_some (P := P) w K.sz (xs.length - i) ((⟨g, 0, none⟩ : Addr).add (i * K.sz)) (xs.length + m - i) c2 (css.drop i).flatten hld hcell
  have hne : ∀ q, q ≠ g → (w.setRow g (cur.toList.take ((i + m) * K.sz) ++ (css.drop i).flatten ++ cur.toList.drop ((i + m) * K.sz + (xs.length - i) * K.sz)).toArray).heap[q]? = w.heap[q]? := fun q hq => setRow_other w g q _ hq
  have hall : ∀ w' S', Star (seqA K xs css) w' S' := fun w' S' => seq_flat hK h4 (fun j y d hy hd => K.own_ro (seq_at hseq hy hd)) w' S'
  refine ⟨.int .i64 ((xs.length - i : Nat) : Int), _, _, ?_, ⟨g, rfl, rfl, rfl⟩, hkk _ [gapA K g e c xs i m] S1 (Star.one (c := gapA K g e c xs i m) ⟨i1 g hg, _, css, setRow_heap w g cur _ e _ q1, ?_, h4, hlc, hall, ?_, ?_⟩) (fun b hb => .inl hb) ⟨rfl, rfl, rfl, by simp, fun b hb hn => hne b (fun e => hn (e ▸ i1 g hg))⟩⟩
  · refine exec_copy ho (hx a ha) (hs a ha) ?_
    have hmin : Nat.min (xs.length + m - i) (xs.length - i) = xs.length - i := Nat.min_eq_right (by omega)
    rw [hlA, hlB, add_plain', add_plain']
    rw [add_plain'] at hfc
    simp [Builtin.copy_, run_underlying ht, Builtin.lenOf, sizeOf, typeInfo, k1, k2, hmin, hfc, hst, goInt]
  · simp only [List.size_toArray, List.length_append, List.length_take, List.length_drop, hld]; omega
  · have hq : css.flatten.take (i * K.sz) = cur.toList.take (i * K.sz) := by
      rw [← q4, List.take_take, Nat.min_eq_left (by omega)]
    rw [flatten_take hlc, hq]
    simp only [List.append_assoc]
    rw [List.take_append_of_le_length (by rw [List.length_take]; omega), List.take_take, Nat.min_eq_left (by omega)]
  · have e1 : (cur.toList.take ((i + m) * K.sz)).length = (i + m) * K.sz := by rw [List.length_take]; omega
    simp only [List.append_assoc]
    rw [List.drop_append_of_le_length (by omega), List.drop_of_length_le (by omega), List.nil_append, List.take_append_of_le_length (by omega), List.take_of_length_le (by omega)]
theorem e_copyFill {α : Type} {K : Kd α} (hK : Flat K) {e by_ e2 by2 g i m c c1 : Nat} {xs ys : List α} {A1 : Option Addr} {xv : Value} {x s : Operand} {t t' : TypeId} (ho : o.op = .call { callee := .builtin .copy, args := #[x, s], argTypes := #[t, t'] }) (ht : P.underlying t = some (.slice e))
    (hi : (P.info? e).map (·.size) = some K.sz) (hx : Val T x (.slice A1 (xs.length + m - i) c1)) (h1A : A1 = (if c = i then some ⟨g, 0, none⟩ else some ((⟨g, 0, none⟩ : Addr).add (i * K.sz)))) (hs : Val T s xv)
    (hT : Takes l [gapA K g e c xs i m] l') (hsrc : ∀ w S1, Tr w0 S0 w S1 l' → (kslice e2 by2 K).ro w (FF w S1) ys [xv]) (hil : i < xs.length) (hm : ys.length = m) (hm0 : 0 < m) (hc : xs.length + m ≤ c) (h63 : c ≤ 9223372036854775807) (hb : (xs.length + m) * by_ ≤ 140737488355328) :
    Eff P o T w0 S0 l (fun r l2 => r = .int .i64 (m : Int) ∧ l2 = ownA (kslice e by_ K) (xs.take i ++ ys ++ xs.drop i) [.slice (some ⟨g, 0, none⟩) (xs.length + m) c] :: l') := by
  intro a w ha hw
  obtain ⟨S1, hA1, tr, hkk⟩ := (hw.takes hT).eff
  obtain ⟨css2, g1, g2, g3⟩ := src_flat (hsrc w S1 tr)
  obtain ⟨i0, k1, k2⟩ := Option.map_eq_some_iff.1 hi
  obtain ⟨b, c2, rfl, hcell⟩ : ∃ b c, xv = .slice (some b) ys.length c ∧ ∀ j u, css2.flatten[j]? = some u → w.cell? (b.add j) = some u := by
    rcases g2.from_ with h1 | ⟨_, h1⟩
    · exact h1
    · omega
  obtain ⟨hg, cur, css, q1, q2, q3, q4, q5, q6, q7⟩ := (show (gapA K g e c xs i m).p w S1 from hA1.head)
  have hl2 : css2.flatten.length = m * K.sz := by rw [← hm]; exact g2.len
  have hn : css2.length = ys.length := g1
  have hlc2 : ∀ d, d ∈ css2 → d.length = K.sz := fun d hd => by
    obtain ⟨j, hj, rfl⟩ := List.mem_iff_getElem.1 hd
    obtain ⟨y, hy⟩ := get_ex (xs := ys) (j := j) (by omega)
    exact K.ro_len (g3 j y _ hy (List.getElem?_eq_getElem hj))
  have hone : ∀ u, u ∈ css2.flatten → u.oneCell' = true := fun u hu => by
    obtain ⟨d, hd, hu2⟩ := List.mem_flatten.1 hu
    obtain ⟨j, hj, rfl⟩ := List.mem_iff_getElem.1 hd
    obtain ⟨y, hy⟩ := get_ex (xs := ys) (j := j) (by omega)
    exact K.ro_one (g3 j y _ hy (List.getElem?_eq_getElem hj)) u hu2
  have hcz : (xs.length + m) * K.sz ≤ c * K.sz := Nat.mul_le_mul_right _ hc
  have hiz : i * K.sz ≤ xs.length * K.sz := Nat.mul_le_mul_right _ (by omega)
  have hsum : (xs.length - i) * K.sz + i * K.sz = xs.length * K.sz := by rw [← Nat.add_mul]; congr 1; omega
  have him : (i + m) * K.sz = i * K.sz + m * K.sz := Nat.add_mul ..
  have hnm : (xs.length + m) * K.sz = xs.length * K.sz + m * K.sz := Nat.add_mul ..
  have hcur : cur.toList.length = cur.size := Array.length_toList
  have hlA : A1 = some ((⟨g, 0, none⟩ : Addr).add (i * K.sz)) := by rw [h1A, if_neg (by omega)]
  have hst := run_storeCells_at P g (i * K.sz) e css2.flatten 0 cur w q1 (by omega) hone
  simp only [Nat.add_zero, hl2] at hst
  have hfc := run_firstCells_some (P := P) w K.sz ys.length b ys.length c2 css2.flatten (by rw [hl2, hm]) hcell
  have hne : ∀ q, q ≠ g → (w.setRow g (cur.toList.take (i * K.sz) ++ css2.flatten ++ cur.toList.drop (i * K.sz + m * K.sz)).toArray).heap[q]? = w.heap[q]? := fun q hq => setRow_other w g q _ hq
  have hxl : (xs.take i ++ ys ++ xs.drop i).length = xs.length + m := by
    simp only [List.length_append, List.length_take, List.length_drop]; omega
  have hcl : (css.take i ++ css2 ++ css.drop i).length = (xs.take i ++ ys ++ xs.drop i).length := by
    simp only [List.length_append, List.length_take, List.length_drop]; omega
  have hlt : ((css.take i).flatten).length = i * K.sz := by rw [flatten_take q4, List.length_take, flatten_len q4, q3]; omega
  have hldr : ((css.drop i).flatten).length = (xs.length - i) * K.sz := by rw [flatten_drop q4, List.length_drop, flatten_len q4, q3, Nat.sub_mul]
  have hseq2 : ∀ (w' : World) (S' : Bs), Star (seqA K (xs.take i ++ ys ++ xs.drop i) (css.take i ++ css2 ++ css.drop i)) w' S' := fun w' S' => by
    refine seq_flat hK (w := w) (F := fun _ => True) hcl (fun j y d hy hd => ?_) w' S'
    have hti : (xs.take i).length = i := by rw [List.length_take]; omega
    have htc : (css.take i).length = i := by rw [List.length_take]; omega
    have up : ∀ {F : Bs} {y : α} {d : List Value}, K.ro w F y d → K.ro w (fun _ => True) y d := fun h => K.ro_up h (fun _ _ => trivial)
    by_cases hj : j < i
    · rw [List.append_assoc, List.getElem?_append_left (by omega), List.getElem?_take, if_pos hj] at hy hd
      exact up (K.own_ro (seq_at (q5 w (fun _ => False)) hy hd))
    · rw [List.append_assoc, List.getElem?_append_right (by omega), hti] at hy
      rw [List.append_assoc, List.getElem?_append_right (by omega), htc] at hd
      by_cases hj2 : j - i < ys.length
      · rw [List.getElem?_append_left hj2] at hy
        rw [List.getElem?_append_left (by omega)] at hd
        exact up (g3 _ y d hy hd)
      · rw [List.getElem?_append_right (by omega), List.getElem?_drop] at hy
        rw [List.getElem?_append_right (by omega), List.getElem?_drop, hn] at hd
        exact up (K.own_ro (seq_at (q5 w (fun _ => False)) hy hd))
  refine ⟨.int .i64 (m : Int), _, _, ?_, ⟨rfl, rfl⟩, hkk _ [ownA (kslice e by_ K) (xs.take i ++ ys ++ xs.drop i) [.slice (some ⟨g, 0, none⟩) (xs.length + m) c]] S1 (Star.one (c := ownA (kslice e by_ K) _ _) (.inr ⟨g, c, css.take i ++ css2 ++ css.drop i, by rw [hxl], by rw [hxl]; exact hc, h63, by rw [hxl]; exact hb, hcl, S1, fun _ => False, ⟨hg, _, setRow_heap w g cur _ e _ q1, ?_, ?_, ?_⟩, hseq2 _ _, fun _ h => h, fun _ h => h.elim, fun _ _ h => h⟩)) (fun b hb => .inl hb) ⟨rfl, rfl, rfl, by simp, fun b hb hn => hne b (fun e => hn (e ▸ hg))⟩⟩
  · refine exec_copy ho (hx a ha) (hs a ha) ?_
    have hmin : Nat.min ys.length (xs.length + m - i) = ys.length := Nat.min_eq_left (by omega)
    rw [hlA, add_plain']
    subst hm
    simp [Builtin.copy_, run_underlying ht, Builtin.lenOf, sizeOf, typeInfo, k1, k2, hmin, hfc, hst, goInt]
  · simp only [List.size_toArray, List.length_append, List.length_take, List.length_drop, hl2]; omega
  · simp only [List.flatten_append, List.size_toArray, List.length_append, List.length_take, List.length_drop, hl2, hlt, hldr]; omega
  · have e2 : (cur.toList.drop (i * K.sz + m * K.sz)).take ((xs.length - i) * K.sz) = (css.drop i).flatten := by rw [← him]; exact q7
    have e3 : (css.take i ++ css2 ++ css.drop i).flatten = cur.toList.take (i * K.sz) ++ css2.flatten ++ (cur.toList.drop (i * K.sz + m * K.sz)).take ((xs.length - i) * K.sz) := by
      rw [List.flatten_append, List.flatten_append, q6, e2]
    have e4 : (cur.toList.take (i * K.sz) ++ css2.flatten).length = i * K.sz + m * K.sz := by rw [List.length_append, List.length_take, hl2]; omega
    have e5 : ((cur.toList.drop (i * K.sz + m * K.sz)).take ((xs.length - i) * K.sz)).length = (xs.length - i) * K.sz := by rw [e2, hldr]
    rw [e3]
    show (cur.toList.take (i * K.sz) ++ css2.flatten ++ cur.toList.drop (i * K.sz + m * K.sz)).take _ = _
    rw [List.length_append, e4, e5, List.take_append, e4, List.take_of_length_le (by omega)]
    congr 2
    omega
/-- Two slices in two rows of one's own do not overlap. -/
theorem own_apart {α β : Type} {K : Kd α} {K2 : Kd β} {e by_ e2 by2 n c n2 c2 : Nat} {xs : List α} {ys : List β} {ad ad2 : Addr} {w : World} {S : Bs} (h : Star [ownA (kslice e by_ K) xs [.slice (some ad) n c], ownA (kslice e2 by2 K2) ys [.slice (some ad2) n2 c2]] w S) (hx : 0 < xs.length) (hy : 0 < ys.length) :
    ∃ g g2, ad = ⟨g, 0, none⟩ ∧ ad2 = ⟨g2, 0, none⟩ ∧ g ≠ g2 ∧ (∃ cur, w.heap[g]? = some (.cells cur e (0, 0)) ∧ 0 < cur.size) ∧ ∃ cur2, w.heap[g2]? = some (.cells cur2 e2 (0, 0)) ∧ 0 < cur2.size := by
  obtain ⟨A, B, hA, hB, i1, i2, d⟩ := h
  have hB' : (kslice e2 by2 K2).own w B ys [.slice (some ad2) n2 c2] := hB.head (c := ownA (kslice e2 by2 K2) ys _)
  rcases (show (kslice e by_ K).own w A xs [.slice (some ad) n c] from hA) with ⟨A0, hv, rfl⟩ | ⟨g, cc, css, hv, h1, h2, h3, h4, A1, A2, ⟨hg, cur, q1, q2, q3, q4⟩, hs1, j1, j2, dd⟩
  · simp at hx
  rcases hB' with ⟨A0, hv2, rfl⟩ | ⟨g2, cc2, css2, hv2, p1, p2, p3, p4, B1, B2, ⟨hg2, cur2, r1, r2, r3, r4⟩, hs2, o1, o2, dd2⟩
  · simp at hy
  have e1 := List.singleton_inj.1 hv
  have e2' := List.singleton_inj.1 hv2
  injection e1 with e1 _ _
  injection e2' with e2' _ _
  obtain rfl := Option.some.inj e1
  obtain rfl := Option.some.inj e2'
  refine ⟨g, g2, rfl, rfl, fun he => d g (j1 g hg) (he ▸ o1 g2 hg2), ⟨cur, q1, ?_⟩, cur2, r1, ?_⟩
  · rw [q2]; exact Nat.mul_pos (by omega) K.pos
  · rw [r2]; exact Nat.mul_pos (by omega) K2.pos
theorem exec_ext {f : FuncId} {as_ : Array Operand} {ts : Array TypeId} {a : Act} {w : World} {args : Array Value} {r : Value} (ho : o.op = .call { callee := .value (.func f), args := as_, argTypes := ts }) (ha : as_.map a.eval = args) (h : (callFunc f args).run P w = .ok (.value r) w) : (execOp a.eval o).run P w = .ok (.value r) w := by
  simp only [execOp, ho]
  simp [resolve, ha, Act.eval, Deferred.ofValue, invoke, h]
/-- The library's 'overlaps', at two slices of two rows of one's own. -/
theorem e_overlaps {α β : Type} {K : Kd α} {K2 : Kd β} {f : FuncId} {fn : Func} {tS tR e by_ by2 n c n2 c2 i lb cb : Nat} {xs : List α} {ys : List β} {ad ad2 : Addr} {B : Option Addr} {x y : Operand} {ts : Array TypeId}
    (ho : o.op = .call { callee := .value (.func f), args := #[x, y], argTypes := ts }) (hf : P.funcs[f]? = some fn) (hname : (fn.name == "runtime.NumGoroutine") = false) (hb : fn.body.isNone = true) (hnx : Extern.findNext fn = none) (he : Extern.find fn = some (Extern.SlicesOverlaps.overlaps #[tS, tS] #[tR]))
    (ht : P.underlying tS = some (.slice e)) (hi : (P.info? e).map (·.size) = some K.sz) (hx : Val T x (.slice (some ad2) n2 c2)) (hy : Val T y (.slice B lb cb)) (hB : B = (if c = i then some ad else some (ad.add (i * K.sz))))
    (hT : Takes l [ownA (kslice e by_ K) xs [.slice (some ad) n c], ownA (kslice e by2 K2) ys [.slice (some ad2) n2 c2]] l') (hx0 : 0 < xs.length) (hy0 : 0 < ys.length) :
    Eff P o T w0 S0 l (fun r l2 => r = .bool false ∧ l2 = ownA (kslice e by_ K) xs [.slice (some ad) n c] :: ownA (kslice e by2 K2) ys [.slice (some ad2) n2 c2] :: l') := by
  intro a w ha hw
  obtain ⟨S1, hA1, tr, hkk⟩ := (hw.takes hT).eff
  obtain ⟨g, g2, e1, e2, hne, ⟨cur, q1, q2⟩, cur2, r1, r2⟩ := own_apart hA1 hx0 hy0
  obtain ⟨i0, k1, k2⟩ := Option.map_eq_some_iff.1 hi
  refine ⟨.bool false, w, _, exec_ext ho (by simp [hx a ha, hy a ha] : #[x, y].map a.eval = #[.slice (some ad2) n2 c2, .slice B lb cb]) ?_, ⟨rfl, rfl⟩, hkk w _ S1 hA1 (fun b hb => .inl hb) (Fr.refl _ _)⟩
  have hz : ∀ w, (Go.sizeOf e).run P w = .ok K.sz w := fun w => by simp [sizeOf, typeInfo, k1, k2]
  obtain ⟨b', hb', hbb⟩ : ∃ b' : Addr, B = some b' ∧ b'.block = g := by
    subst e1
    rw [hB]
    split
    · exact ⟨_, rfl, rfl⟩
    · exact ⟨_, rfl, by rw [add_block]⟩
  subst hb'
  rw [run_callFunc_extern hf hname hb hnx he, Lib.run_overlaps_apart w tS tR e ht K.sz hz ad2 b' n2 c2 lb cb (by rw [hbb, e2]; exact fun h => hne h.symm) e e cur2.size cur.size (by rw [e2]; simp [World.shape?, r1]) (by rw [hbb]; simp [World.shape?, q1]) (by omega) (by rw [e2]; simp [World.frozen?, r1]) (by rw [e2]; simp [World.frozen?, r1])]
  rfl
/-- 'append(s[:i], make(..)...)' where there is no room: a new row; the old one is as it was. -/
theorem e_appendMake {α : Type} {K : Kd α} (hK : Flat K) {e by_ i k n c : Nat} {xs : List α} {x0 : α} {ad : Addr} {z : Value} {s q : Operand} {t tn : TypeId} {kq kn : IntKind} (ho : o.op = .call { callee := .builtin .append, args := #[s, q], argTypes := #[t, tn] }) (ht : P.underlying t = some (.slice e)) (htn : P.underlying tn = some (.int kn))
    (hi : (P.info? e).map (fun i => (i.size, i.bytes, i.zero)) = some (K.sz, by_, some z)) (hz : z.cells.size = K.sz) (h0 : ∀ w S, K.own w S x0 z.cells.toList) (hs : Val T s (.slice (some ad) i c)) (hq : Val T q (.int kq (k : Int)))
    (hT : Takes l [ownA (kslice e by_ K) xs [.slice (some ad) n c]] l') (hil : i < xs.length) (hk : 0 < k) (hg : c < i + k) (hb : (i + k) * by_ ≤ 140737488355328) (h63 : i + k ≤ 140737488355328) :
    Eff P o T w0 S0 l (fun r l2 => l2 = ownA (kslice e by_ K) (xs.take i ++ List.replicate k x0) [r] :: ownA (kslice e by_ K) xs [.slice (some ad) n c] :: l') := by
  intro a w ha hw
  obtain ⟨S1, hA1, tr, hkk⟩ := (hw.takes hT).eff
  obtain ⟨i0, k1, k2⟩ := Option.map_eq_some_iff.1 hi
  obtain ⟨k2, k3⟩ := Prod.mk.inj k2
  obtain ⟨k3, k4⟩ := Prod.mk.inj k3
  have hold0 := hA1.head
  rcases (show (kslice e by_ K).own w S1 xs [.slice (some ad) n c] from hold0) with ⟨A, hv, rfl⟩ | ⟨g, cc, css, hv, h1, h2, h3, h4, h5⟩
  · simp at hil
  have hv' := List.singleton_inj.1 hv
  injection hv' with e1 e2 e3
  obtain rfl := Option.some.inj e1
  subst e3
  obtain ⟨B1, B2, ⟨hg1, cur, q1, q2, q3, q4⟩, hseq, i1, i2, dd⟩ := h5
  have hlc := seq_len h4 hseq
  have hlt : ((css.take i).flatten).length = i * K.sz := by
    have h6 : i * K.sz ≤ xs.length * K.sz := Nat.mul_le_mul_right _ (by omega)
    rw [flatten_take hlc, List.length_take, flatten_len hlc, h4]; omega
  have hpos := K.pos
  have hold := run_firstCells_some (P := P) (w := w.drew) i0.size i ⟨g, 0, none⟩ i c (css.take i).flatten (by rw [k2]; exact hlt) (fun j u hu => by
    rw [flatten_take hlc, List.getElem?_take] at hu
    split at hu
    · rw [add_plain']
      exact row_cell (S := B1) (w := w) ⟨hg1, cur, q1, q2, q3, q4⟩ hu
    · cases hu)
  have hkb : k * by_ ≤ (i + k) * by_ := Nat.mul_le_mul_right _ (by omega)
  have hr := Lib.run_append_grow_zeros (P := P) w t tn o.type e i0 z kq kn ht htn k1 k4 (some ⟨g, 0, none⟩) i c (css.take i).flatten hold k hk (by omega) hg (by omega) (by rw [k3]; omega) (growslice_fits hg (by rw [k3]; exact hb))
  have hge := grownCap_ge w (i + k) c e
  have hcm := grownCap_le_maxLen w (i + k) c e (by unfold maxLen; omega)
  unfold maxLen at hcm
  have hxl : (xs.take i ++ List.replicate k x0).length = i + k := by rw [List.length_append, List.length_take, List.length_replicate]; omega
  have hcl : (css.take i ++ List.replicate k z.cells.toList).length = (xs.take i ++ List.replicate k x0).length := by
    rw [hxl, List.length_append, List.length_take, List.length_replicate]; omega
  have hzk : (Builtin.zeroCells z.cells k).toList = (List.replicate k z.cells.toList).flatten := by
    have := madeCells_flat z.cells k (by omega)
    rw [← this]
    rfl
  have hzl : ((List.replicate k z.cells.toList).flatten).length = k * K.sz := by rw [← hzk, Array.length_toList, size_zeroCells, hz]
  have hall : ∀ (b : Nat), b < w.heap.size → (w.drew.alloc (.cells ((css.take i).flatten.toArray ++ Builtin.zeroCells z.cells k ++ Builtin.zeroCells z.cells (grownCap w (i + k) c e - (i + k))) e)).heap[b]? = w.heap[b]? := fun b hb => Below.heap_alloc w.drew _ b hb
  have hsq : ∀ (w' : World) (S' : Bs), Star (seqA K (xs.take i ++ List.replicate k x0) (css.take i ++ List.replicate k z.cells.toList)) w' S' := fun w' S' => by
    refine seq_app (S1 := fun _ => False) (S2 := fun _ => False) (by rw [List.length_take, List.length_take, h4]) ?_ (seq_rep h0 k w' _) (fun _ h => h.elim) (fun _ h => h.elim) (fun _ h => h.elim)
    refine seq_flat hK (w := w) (F := fun _ => True) (by rw [List.length_take, List.length_take, h4]) (fun j y d hy hd => ?_) w' _
    rw [List.getElem?_take] at hy hd
    split at hy
    · rename_i hj
      rw [if_pos hj] at hd
      exact K.ro_up (K.own_ro (seq_at hseq hy hd)) (fun _ _ => trivial)
    · cases hy
  refine ⟨_, _, _, ?_, rfl, hkk _ [ownA (kslice e by_ K) (xs.take i ++ List.replicate k x0) [.slice (some ⟨w.heap.size, 0, none⟩) (i + k) (grownCap w (i + k) c e)], ownA (kslice e by_ K) xs [.slice (some ⟨g, 0, none⟩) n c]] (fun b => b = w.heap.size ∨ (S1 b ∧ b < w.heap.size)) ⟨fun b => b = w.heap.size, fun b => S1 b ∧ b < w.heap.size, ?_, Star.one (c := ownA (kslice e by_ K) xs _) (Asn.loc _ (Asn.lt _ hold0) (fun b hb => hall b hb.2)), fun b hb => .inl hb, fun b hb => .inr hb, fun b hb hb2 => by have := hb2.2; omega⟩ (fun b hb => hb.elim (fun h => .inr (by omega)) (fun h => .inl h.1)) ⟨rfl, rfl, rfl, by simp, fun b hb _ => hall b hb⟩⟩
  · simp only [execOp, ho, hs a ha, hq a ha]
    simp [resolve, hs a ha, hq a ha, invoke, builtin, hr]
  · refine .inr ⟨w.heap.size, _, css.take i ++ List.replicate k z.cells.toList, by rw [hxl], by rw [hxl]; exact hge, by omega, by rw [hxl]; exact hb, hcl, fun b => b = w.heap.size, fun _ => False, ⟨rfl, _, heap_alloc_new w.drew _, ?_, ?_, ?_⟩, hsq _ _, fun b hb => hb, fun _ h => h.elim, fun _ _ h => h⟩
    · simp only [Array.size_append, List.size_toArray, size_zeroCells, hz, hlt, ← Nat.add_mul]
      congr 1; omega
    · rw [List.flatten_append, List.length_append, hlt, hzl]
      simp only [Array.size_append, List.size_toArray, size_zeroCells, hz, hlt]; omega
    · rw [List.flatten_append, ← hzk]
      simp only [Array.toList_append]
      exact List.take_left
theorem q_cap {Wd : World → Prop} {x : Operand} {t e : TypeId} {n c : Nat} {A : Option Addr} (ho : o.op = .call { callee := .builtin .cap, args := #[x], argTypes := #[t] }) (ht : P.underlying t = some (.slice e)) (hx : Val T x (.slice A n c)) : Quiet P o T Wd (.int .i64 (c : Int)) := fun a w ha _ => by
  simp only [execOp, ho]
  simp [resolve, hx a ha, invoke, builtin, Builtin.cap_, run_underlying ht, goInt]
theorem cpy_n {x : Operand} {A : Option Addr} {n m c : Nat} (h : Val T x (.slice A n c)) (e : n = m) : Val T x (.slice A m c) := e ▸ h
end
end Go.Proofs.YticaddophhggoaaGreat
/- What is proved: a row of a few slices handed on; an append of a make to nothing. No condition. -/
namespace Go.Proofs.YticaddophhggoaaGreat
open Go Go.RowKit
set_option linter.unusedVariables false
set_option linter.unusedSimpArgs false
theorem Tr.lit2 {α : Type} {K : Kd α} {e by_ g c : Nat} {w0 w : World} {S0 S1 : Bs} {lr l' : List Asn} {x0 x1 : α} {v0 v1 : Value} (tr : Tr w0 S0 w S1 lr) (tk : Take lr (rowA g e 1 c [v0, v1]) l') (hK : K.sz = 1) (h0 : K.ro w (FF w S1) x0 [v0]) (h1 : K.ro w (FF w S1) x1 [v1]) (hb : 2 * by_ ≤ 140737488355328) : (kslice e by_ K).ro w (FF w S1) [x0, x1] [.slice (some ⟨g, 0, none⟩) 2 2] := by
  obtain ⟨ecs, hF, ⟨c1, c2, rfl, r0, r1⟩, hc⟩ := tr.ptr (K := kpair K K) (x := (x0, x1)) tk ⟨[v0], [v1], rfl, h0, h1⟩
  have l1 := K.ro_len r0
  have l2 := K.ro_len r1
  rw [hK] at l1 l2
  refine ⟨some ⟨g, 0, none⟩, 2, rfl, Nat.le_refl _, by omega, hb, fun _ => ⟨_, rfl, hF, fun j x hj => ?_⟩⟩
  match j, hj with
  | 0, hj =>
    obtain rfl : x0 = x := by simpa using hj
    refine ⟨c1, r0, fun i u hu => ?_⟩
    have hi := (List.getElem?_eq_some_iff.1 hu).1
    rw [hK, show 0 * 1 + i = i by omega]
    exact hc i u (by rw [List.getElem?_append_left hi]; exact hu)
  | 1, hj =>
    obtain rfl : x1 = x := by simpa using hj
    refine ⟨c2, r1, fun i u hu => ?_⟩
    rw [hK, show 1 * 1 + i = 1 + i by omega]
    exact hc (1 + i) u (by rw [List.getElem?_append_right (by omega), l1, show 1 + i - 1 = i by omega]; exact hu)
  | j + 2, hj => simp at hj
section
variable {w0 : World} {S0 : Bs} {T : Slots} {l l' : List Asn} {P : Program} {o : Oper}
/-- 'append(nothing, make(..)...)': a new row. -/
theorem e_appendMake0 {α : Type} {K : Kd α} {e by_ k : Nat} {x0 : α} {z : Value} {s q : Operand} {t tn : TypeId} {kq kn : IntKind} (ho : o.op = .call { callee := .builtin .append, args := #[s, q], argTypes := #[t, tn] }) (ht : P.underlying t = some (.slice e)) (htn : P.underlying tn = some (.int kn))
    (hi : (P.info? e).map (fun i => (i.size, i.bytes, i.zero)) = some (K.sz, by_, some z)) (hz : z.cells.size = K.sz) (h0 : ∀ w S, K.own w S x0 z.cells.toList) (hs : Val T s (.slice none 0 0)) (hq : Val T q (.int kq (k : Int))) (hk : 0 < k) (hb : k * by_ ≤ 140737488355328) (h63 : k ≤ 140737488355328) :
    Eff P o T w0 S0 l (fun r l2 => l2 = ownA (kslice e by_ K) (List.replicate k x0) [r] :: l) := by
  intro a w ha hw
  obtain ⟨i0, k1, k2⟩ := Option.map_eq_some_iff.1 hi
  obtain ⟨k2, k3⟩ := Prod.mk.inj k2
  obtain ⟨k3, k4⟩ := Prod.mk.inj k3
  have hpos := K.pos
  have hr := Lib.run_append_grow_zeros (P := P) w t tn o.type e i0 z kq kn ht htn k1 k4 none 0 0 [] (run_firstCells_none _ _ _ _ _) k hk (by omega) (by omega) (by omega) (by rw [k3]; omega) (growslice_fits (by omega) (by rw [k3]; simpa using hb))
  rw [Nat.zero_add] at hr
  have hge := grownCap_ge w k 0 e
  have hcm := grownCap_le_maxLen w k 0 e (by unfold maxLen; omega)
  unfold maxLen at hcm
  have hzk : (Builtin.zeroCells z.cells k).toList = (List.replicate k z.cells.toList).flatten := by
    have := madeCells_flat z.cells k (by omega)
    rw [← this]
    rfl
  have hzl : ((List.replicate k z.cells.toList).flatten).length = k * K.sz := by rw [← hzk, Array.length_toList, size_zeroCells, hz]
  have hwd : WS w0 S0 l w.drew := hw.drewn
  obtain ⟨S, ⟨A, B, h1, h2, i1, i2, d⟩, hbs, hf⟩ := hwd.new (([] : List Value).toArray ++ Builtin.zeroCells z.cells k ++ Builtin.zeroCells z.cells (grownCap w k 0 e - k)) e K.sz (grownCap w k 0 e) (by
    simp only [Array.size_append, List.size_toArray, List.length_nil, size_zeroCells, hz, Nat.zero_add, ← Nat.add_mul]
    congr 1; omega)
  obtain ⟨hg1, cur, q1, q2, q3, q4⟩ := h1
  refine ⟨_, _, _, ?_, rfl, S, ⟨A, B, .inr ⟨w.heap.size, _, List.replicate k z.cells.toList, rfl, ?_, ?_, ?_, ?_, A, fun _ => False, ⟨hg1, cur, q1, q2, ?_, ?_⟩, seq_rep h0 k _ _, fun _ h => h, fun _ h => h.elim, fun _ _ h => h⟩, h2, i1, i2, d⟩, hbs, hf⟩
  · simp only [execOp, ho, hs a ha, hq a ha]
    simp only [List.length_replicate]
    simp [resolve, hs a ha, hq a ha, invoke, builtin, hr]
  · rw [List.length_replicate]; exact hge
  · omega
  · rw [List.length_replicate]; exact hb
  · simp
  · rw [hzl, q2]
    exact Nat.mul_le_mul_right _ hge
  · rw [hzl]
    have e1 : cur.toList = (([] : List Value).toArray ++ Builtin.zeroCells z.cells k ++ Builtin.zeroCells z.cells (grownCap w k 0 e - k)).toList := by
      rw [Array.length_toList] at q3 q4
      have hs : cur.size = (([] : List Value).toArray ++ Builtin.zeroCells z.cells k ++ Builtin.zeroCells z.cells (grownCap w k 0 e - k)).size := by
        rw [q2]
        simp only [Array.size_append, List.size_toArray, List.length_nil, size_zeroCells, hz, Nat.zero_add, ← Nat.add_mul]
        congr 1; omega
      rw [← q4, List.take_of_length_le (by rw [Array.length_toList]; omega)]
    rw [e1]
    simp only [Array.toList_append, List.nil_append]
    rw [hzk, ← hzl]
    exact List.take_left
end
end Go.Proofs.YticaddophhggoaaGreat
/- What is proved: nothing: weights and marks of the data types. No condition. -/
namespace Go.Proofs.YticaddophhggoaaGreat
set_option linter.unusedVariables false
def wt_DEnt (x : DEnt) : Nat := x.name.size + 0
def cnt_DEnt (x : DEnt) : Nat := 1 + 1
def mark_DEnt (n : Int) (x : DEnt) : DEnt := ⟨(mtext n), (n + 1)⟩
def vcnt_DEnt (x : DEnt) : Nat := 0 + 0
def vmark_DEnt (n : Int) (x : DEnt) : DEnt := ⟨x.name, x.ino⟩
def wt_DInode (x : DInode) : Nat := 0 + 0 + 0 + x.blocks.length + (x.ents.length + sumF wt_DEnt x.ents)
def cnt_DInode (x : DInode) : Nat := 1 + 1 + 1 + x.blocks.length + (sumF cnt_DEnt x.ents)
def mark_DInode (n : Int) (x : DInode) : DInode := ⟨n, (n + 1), (n + 1 + 1), ((markL (fun _ => 1) (fun m _ => m)) (n + 1 + 1 + 1) x.blocks), ((markL cnt_DEnt mark_DEnt) (n + 1 + 1 + 1 + (x.blocks.length : Int)) x.ents)⟩
def vcnt_DInode (x : DInode) : Nat := 0 + 0 + 0 + x.blocks.length + (sumF cnt_DEnt x.ents)
def vmark_DInode (n : Int) (x : DInode) : DInode := ⟨x.kind, x.links, x.size, ((markL (fun _ => 1) (fun m _ => m)) n x.blocks), ((markL cnt_DEnt mark_DEnt) (n + (x.blocks.length : Int)) x.ents)⟩
def wt_DFs (x : DFs) : Nat := (x.inodes.length + sumF wt_DInode x.inodes) + (x.data.length + sumF (fun x => x.length) x.data)
def cnt_DFs (x : DFs) : Nat := (sumF cnt_DInode x.inodes) + (sumF (fun x => x.length) x.data)
def mark_DFs (n : Int) (x : DFs) : DFs := ⟨((markL cnt_DInode mark_DInode) n x.inodes), ((markL (fun x => x.length) (markL (fun _ => 1) (fun m _ => mbyte m))) (n + ((sumF cnt_DInode x.inodes) : Int)) x.data)⟩
def vcnt_DFs (x : DFs) : Nat := (sumF cnt_DInode x.inodes) + (sumF (fun x => x.length) x.data)
def vmark_DFs (n : Int) (x : DFs) : DFs := ⟨((markL cnt_DInode mark_DInode) n x.inodes), ((markL (fun x => x.length) (markL (fun _ => 1) (fun m _ => mbyte m))) (n + ((sumF cnt_DInode x.inodes) : Int)) x.data)⟩
def wt_RFs (x : RFs) : Nat := 0 + (wt_DFs x.fs)
def cnt_RFs (x : RFs) : Nat := 1 + (cnt_DFs x.fs)
def mark_RFs (n : Int) (x : RFs) : RFs := ⟨n, (mark_DFs (n + 1) x.fs)⟩
def vcnt_RFs (x : RFs) : Nat := 0 + (vcnt_DFs x.fs)
def vmark_RFs (n : Int) (x : RFs) : RFs := ⟨x.code, (vmark_DFs n x.fs)⟩
def wt_RNames (x : RNames) : Nat := 0 + (x.names.length + sumF (fun x => x.size) x.names)
def cnt_RNames (x : RNames) : Nat := 1 + x.names.length
def mark_RNames (n : Int) (x : RNames) : RNames := ⟨n, ((markL (fun _ => 1) (fun m _ => mtext m)) (n + 1) x.names)⟩
def vcnt_RNames (x : RNames) : Nat := 0 + x.names.length
def vmark_RNames (n : Int) (x : RNames) : RNames := ⟨x.code, ((markL (fun _ => 1) (fun m _ => mtext m)) n x.names)⟩
def wt_RBytes (x : RBytes) : Nat := 0 + x.bytes.length
def cnt_RBytes (x : RBytes) : Nat := 1 + x.bytes.length
def mark_RBytes (n : Int) (x : RBytes) : RBytes := ⟨n, ((markL (fun _ => 1) (fun m _ => mbyte m)) (n + 1) x.bytes)⟩
def vcnt_RBytes (x : RBytes) : Nat := 0 + x.bytes.length
def vmark_RBytes (n : Int) (x : RBytes) : RBytes := ⟨x.code, ((markL (fun _ => 1) (fun m _ => mbyte m)) n x.bytes)⟩
def wt_RInt (x : RInt) : Nat := 0 + 0
def cnt_RInt (x : RInt) : Nat := 1 + 1
def mark_RInt (n : Int) (x : RInt) : RInt := ⟨n, (n + 1)⟩
def vcnt_RInt (x : RInt) : Nat := 0 + 0
def vmark_RInt (n : Int) (x : RInt) : RInt := ⟨x.code, x.val⟩
def wt_RInts (x : RInts) : Nat := 0 + x.list.length
def cnt_RInts (x : RInts) : Nat := 1 + x.list.length
def mark_RInts (n : Int) (x : RInts) : RInts := ⟨n, ((markL (fun _ => 1) (fun m _ => m)) (n + 1) x.list)⟩
def vcnt_RInts (x : RInts) : Nat := 0 + x.list.length
def vmark_RInts (n : Int) (x : RInts) : RInts := ⟨x.code, ((markL (fun _ => 1) (fun m _ => m)) n x.list)⟩
def wt_DSrc (x : DSrc) : Nat := x.code.length + 0
def cnt_DSrc (x : DSrc) : Nat := x.code.length + 1
def mark_DSrc (n : Int) (x : DSrc) : DSrc := ⟨((markL (fun _ => 1) (fun m _ => mbyte m)) n x.code), (n + (x.code.length : Int))⟩
def vcnt_DSrc (x : DSrc) : Nat := x.code.length + 0
def vmark_DSrc (n : Int) (x : DSrc) : DSrc := ⟨((markL (fun _ => 1) (fun m _ => mbyte m)) n x.code), x.at_⟩
def wt_RStat (x : RStat) : Nat := 0 + 0 + 0 + 0 + 0
def cnt_RStat (x : RStat) : Nat := 1 + 1 + 1 + 1 + 1
def mark_RStat (n : Int) (x : RStat) : RStat := ⟨n, (n + 1), (n + 1 + 1), (n + 1 + 1 + 1), (n + 1 + 1 + 1 + 1)⟩
def vcnt_RStat (x : RStat) : Nat := 0 + 0 + 0 + 0 + 0
def vmark_RStat (n : Int) (x : RStat) : RStat := ⟨x.code, x.inode, x.kind, x.links, x.size⟩
end Go.Proofs.YticaddophhggoaaGreat
/- What is proved: how much there is to mark, of paths that are told. No condition. -/
namespace Go.Proofs.YticaddophhggoaaGreat
theorem pathsR_cnt (f : DFs) : vcnt_RNames (pathsR f) ≤ 60 := by
  unfold pathsR vcnt_RNames
  split
  · simp only [List.length_take]; omega
  · simp
end Go.Proofs.YticaddophhggoaaGreat
/- What is proved: how much there is to mark, of inodes and of lists of blocks. No condition. -/
namespace Go.Proofs.YticaddophhggoaaGreat
set_option linter.unusedVariables false
set_option linter.unusedSimpArgs false
theorem sumF_mul {α : Type} {f g : α → Nat} {m : Nat} (h : ∀ x, f x ≤ m * g x) : ∀ xs : List α, sumF f xs ≤ m * sumF g xs
  | [] => Nat.zero_le _
  | x :: xs => by
    have h1 := h x
    have h2 := sumF_mul h xs
    simp only [sumF, Nat.mul_add]
    omega
theorem sumF_const {α : Type} (c : Nat) : ∀ xs : List α, sumF (fun _ => c) xs = xs.length * c
  | [] => by simp [sumF]
  | x :: xs => by simp only [sumF, sumF_const c xs, List.length_cons, Nat.succ_mul]; omega
theorem inode_cnt_wt (x : DInode) : cnt_DInode x ≤ 3 + 2 * wt_DInode x := by
  unfold cnt_DInode wt_DInode
  have h : sumF cnt_DEnt x.ents = x.ents.length * 2 := by
    have e : cnt_DEnt = fun _ => 2 := by funext e; rfl
    rw [e, sumF_const]
  omega
theorem inodes_cnt_wt (xs : List DInode) : sumF cnt_DInode xs ≤ 3 * (xs.length + sumF wt_DInode xs) := by
  have : ∀ ys : List DInode, sumF cnt_DInode ys ≤ 3 * (ys.length + sumF wt_DInode ys) := by
    intro ys
    induction ys with
    | nil => simp [sumF]
    | cons y ys ih =>
      have h := inode_cnt_wt y
      simp only [sumF, List.length_cons]
      omega
  exact this xs
theorem used_len_20 {xs : List DInode} (h : inodesFault xs = 0) : (sortI (usedL xs)).length ≤ 40 := by
  rw [sortI_len]
  have := usedL_40 h xs.length
  rwa [List.take_length] at this
theorem usedR_cnt (xs : List DInode) : vcnt_RInts (usedR xs) ≤ 40 := by
  unfold vcnt_RInts usedR
  split
  · rename_i h
    split
    · have := used_len_20 h; simp only; omega
    · simp
  · simp
theorem freeR_cnt (xs : List DInode) (b : List Int) : vcnt_RInts (freeR xs b) ≤ 40 := by
  unfold vcnt_RInts freeR
  split
  · have : (freeTo xs b).length ≤ 20 := placesTo_len
    simp only; omega
  · simp
theorem pickR_cnt (xs : List DInode) (b : List Int) (n : Int) : vcnt_RInts (pickR xs b n) ≤ 40 := by
  unfold vcnt_RInts pickR pickOf
  split
  · split
    · split
      · simp
      · have : (freeTo xs b).length ≤ 20 := placesTo_len
        simp only [List.length_take]; omega
    · simp
  · simp
theorem packR_cnt (x : DInode) : vcnt_RInts (packR x) ≤ 44 := by
  unfold vcnt_RInts packR
  split
  · rename_i h; have := packI_len h; simp only; omega
  · simp
theorem inode_vcnt_wt (x : DInode) : vcnt_DInode x ≤ 3 + 2 * wt_DInode x := by
  have := inode_cnt_wt x
  unfold cnt_DInode at this
  unfold vcnt_DInode
  omega
end Go.Proofs.YticaddophhggoaaGreat
/- What is proved: how much there is to mark, of trees. No condition. -/
namespace Go.Proofs.YticaddophhggoaaGreat
set_option linter.unusedVariables false
set_option linter.unusedSimpArgs false
theorem fs_cnt_wt (f : DFs) : vcnt_DFs f ≤ 3 * wt_DFs f := by
  have h := inodes_cnt_wt f.inodes
  unfold vcnt_DFs wt_DFs
  omega
theorem reachR_cnt (f : DFs) : vcnt_RInts (reachR f) ≤ 40 := by
  unfold vcnt_RInts reachR
  split
  · rename_i h
    have h1 := inodes_10 (treeI h)
    have h2 : (reachL f.inodes 0).length ≤ f.inodes.length := placesTo_len
    simp only; omega
  · simp
theorem entsAt_6 {f : DFs} (h : inodesFault f.inodes = 0) (a : Int) : (entsAt f.inodes a).length ≤ 6 := by
  unfold entsAt
  cases hx : f.inodes[a.toNat]? with
  | none => simp
  | some x => exact ents_6 (inodes_all h x (List.mem_of_getElem? hx))
theorem namesR_cnt (f : DFs) (a : Int) : vcnt_RNames (namesR f a) ≤ 40 := by
  unfold vcnt_RNames namesR
  split
  · rename_i h
    have h2 := entsAt_6 (treeI (dirOk h).1) a
    simp only [namesOf, List.length_map]; omega
  · simp
end Go.Proofs.YticaddophhggoaaGreat

/- What is proved: a slice of one's own opened up in the middle, and the gap filled; zeros appended; two slices apart. No condition. -/
import Derived.Test.YtkmcpcahbfdohaaBase1
import Derived.Lib.Overlaps
import Derived.Lib.AppendZerosOnto
import Derived.Lib.SlicesCompact
import Derived.Sort.Row
import Derived.Sort.Grow
import Derived.Test.YtkmcpcahbfdohaaBase0
import Derived.Lib.SplitLaws
import Derived.Lib.Join
namespace Go.Proofs.Ytkmcpcahbfdohaa
open Go Go.RowKit
set_option linter.unusedVariables false
set_option linter.unusedSimpArgs false
/-- A row of one's own whose middle is open: what stood ahead of i, then m elements that are not told, then what stood from i on. -/
def gapA {α : Type} (K : Kd α) (g e c : Nat) (xs : List α) (i m : Nat) : Asn where
  p w S := S g ∧ ∃ (cur : Array Value) (css : List (List Value)), w.heap[g]? = some (.cells cur e (0, 0)) ∧ cur.size = c * K.sz ∧ css.length = xs.length ∧ (∀ d, d ∈ css → d.length = K.sz) ∧ (∀ w' S', Star (seqA K xs css) w' S') ∧
    cur.toList.take (i * K.sz) = (css.take i).flatten ∧ (cur.toList.drop ((i + m) * K.sz)).take ((xs.length - i) * K.sz) = (css.drop i).flatten
  up h hs := ⟨hs _ h.1, h.2⟩
  loc := by rintro w w' S ⟨h, cur, css, h1, h2⟩ hs; exact ⟨h, cur, css, by rw [hs g h]; exact h1, h2⟩
  lt := by rintro w S ⟨h, cur, css, h1, h2⟩; exact ⟨⟨h, (Array.getElem?_eq_some_iff.1 h1).1⟩, cur, css, h1, h2⟩
theorem ins_grow {α : Type} {xs ys : List α} {x0 : α} {i k : Nat} (hi : i < xs.length) (hk : k = xs.length + ys.length - i) :
    ((((xs.take i ++ List.replicate k x0).take i ++ ys ++ (xs.take i ++ List.replicate k x0).drop (i + ys.length)).take (i + ys.length)) ++ subL xs i xs.length ++ (((xs.take i ++ List.replicate k x0).take i ++ ys ++ (xs.take i ++ List.replicate k x0).drop (i + ys.length)).drop (i + ys.length + (subL xs i xs.length).length))) = xs.take i ++ ys ++ xs.drop i := by
  have h1 : (xs.take i).length = i := by rw [List.length_take]; omega
  have h2 : (xs.take i ++ List.replicate k x0).take i = xs.take i := List.take_left' h1
  have h3 : (xs.take i ++ ys).length = i + ys.length := by rw [List.length_append, h1]
  have h4 : (subL xs i xs.length).length = xs.length - i := subL_len (Nat.le_refl _)
  rw [h2, List.take_left' h3, h4]
  have h5 : subL xs i xs.length = xs.drop i := by unfold subL; rw [List.take_length]
  rw [h5]
  have h6 : (xs.take i ++ ys ++ (xs.take i ++ List.replicate k x0).drop (i + ys.length)).drop (i + ys.length + (xs.length - i)) = [] := by
    apply List.drop_of_length_le
    simp only [List.length_append, List.length_drop, List.length_replicate, h1]
    omega
  rw [h6, List.append_nil]
theorem ins_end {α : Type} {xs ys : List α} {i : Nat} (h : (i : Int) = (xs.length : Int)) : xs ++ ys = xs.take i ++ ys ++ xs.drop i := by
  rw [show i = xs.length by omega, List.take_length, List.drop_length, List.append_nil]
section
variable {P : Program} {T : Slots} {o : Oper} {w0 : World} {S0 : Bs} {l l' : List Asn}
theorem exec_copy {x s : Operand} {t t' : TypeId} {a : Act} {w w' : World} {u v r : Value} (ho : o.op = .call { callee := .builtin .copy, args := #[x, s], argTypes := #[t, t'] }) (hx : a.eval x = u) (hs : a.eval s = v) (h : (Builtin.copy_ #[t, t'] o.type #[u, v]).run P w = .ok r w') : (execOp a.eval o).run P w = .ok (.value r) w' := by
  simp only [execOp, ho, hx, hs]
  simp [resolve, hx, hs, invoke, builtin, h]
theorem e_copyGap {α : Type} {K : Kd α} (hK : Flat K) {e by_ i m c c1 c2 : Nat} {xs : List α} {ad : Addr} {A1 A2 : Option Addr} {x s : Operand} {t t' : TypeId} (ho : o.op = .call { callee := .builtin .copy, args := #[x, s], argTypes := #[t, t'] }) (ht : P.underlying t = some (.slice e))
    (hi : (P.info? e).map (·.size) = some K.sz) (hx : Val T x (.slice A1 (xs.length - i) c1)) (h1A : A1 = (if c = i + m then some ad else some (ad.add ((i + m) * K.sz)))) (hs : Val T s (.slice A2 (xs.length + m - i) c2)) (h2A : A2 = (if c = i then some ad else some (ad.add (i * K.sz))))
    (hT : Takes l [ownA (kslice e by_ K) xs [.slice (some ad) xs.length c]] l') (hil : i < xs.length) (hm : 0 < m) (hc : xs.length + m ≤ c) :
    Eff P o T w0 S0 l (fun r l2 => ∃ g, ad = ⟨g, 0, none⟩ ∧ r = .int .i64 ((xs.length - i : Nat) : Int) ∧ l2 = gapA K g e c xs i m :: l') := by
  intro a w ha hw
  obtain ⟨S1, hA1, tr, hkk⟩ := (hw.takes hT).eff
  obtain ⟨i0, k1, k2⟩ := Option.map_eq_some_iff.1 hi
  rcases (show (kslice e by_ K).own w S1 xs [.slice (some ad) xs.length c] from hA1.head) with ⟨A, hv, rfl⟩ | ⟨g, cc, css, hv, h1, h2, h3, h4, h5⟩
  · simp only [List.length_nil] at hil; omega
  have hv' := List.singleton_inj.1 hv
  injection hv' with e1 e2 e3
  obtain rfl := Option.some.inj e1
  subst e3
  obtain ⟨B1, B2, ⟨hg, cur, q1, q2, q3, q4⟩, hseq, i1, i2, dd⟩ := h5
  have hlc := seq_len h4 hseq
  have hfl : css.flatten.length = xs.length * K.sz := by rw [flatten_len hlc, h4]
  have hdr : (css.drop i).flatten = css.flatten.drop (i * K.sz) := flatten_drop hlc i
  have hld : (css.drop i).flatten.length = (xs.length - i) * K.sz := by rw [hdr, List.length_drop, hfl, Nat.sub_mul]
  have hone : ∀ u, u ∈ (css.drop i).flatten → u.oneCell' = true := fun u hu => by
    obtain ⟨d, hd, hu2⟩ := List.mem_flatten.1 hu
    exact (seq_ones h4 hseq d (List.mem_of_mem_drop hd)).2 u hu2
  have hcz : (xs.length + m) * K.sz ≤ c * K.sz := Nat.mul_le_mul_right _ hc
  have hiz : i * K.sz ≤ xs.length * K.sz := Nat.mul_le_mul_right _ (by omega)
  have hsum : (xs.length - i) * K.sz + i * K.sz = xs.length * K.sz := by rw [← Nat.add_mul]; congr 1; omega
  have him : (i + m) * K.sz = i * K.sz + m * K.sz := Nat.add_mul ..
  have hnm : (xs.length + m) * K.sz = xs.length * K.sz + m * K.sz := Nat.add_mul ..
  have hpos := K.pos
  have hcur : cur.toList.length = cur.size := Array.length_toList
  have hlA : A1 = some ((⟨g, 0, none⟩ : Addr).add ((i + m) * K.sz)) := by rw [h1A, if_neg (by omega)]
  have hlB : A2 = some ((⟨g, 0, none⟩ : Addr).add (i * K.sz)) := by rw [h2A, if_neg (by omega)]
  have hst := run_storeCells_at P g ((i + m) * K.sz) e (css.drop i).flatten 0 cur w q1 (by omega) hone
  simp only [Nat.add_zero, hld] at hst
  have hcell : ∀ j u, (css.drop i).flatten[j]? = some u → w.cell? (((⟨g, 0, none⟩ : Addr).add (i * K.sz)).add j) = some u := fun j u hu => by
    rw [hdr, List.getElem?_drop] at hu
    rw [add_add, add_plain']
    exact row_cell (S := B1) ⟨hg, cur, q1, q2, q3, q4⟩ hu
  have hfc := run_firstCells_some (P := P) w K.sz (xs.length - i) ((⟨g, 0, none⟩ : Addr).add (i * K.sz)) (xs.length + m - i) c2 (css.drop i).flatten hld hcell
  have hne : ∀ q, q ≠ g → (w.setRow g (cur.toList.take ((i + m) * K.sz) ++ (css.drop i).flatten ++ cur.toList.drop ((i + m) * K.sz + (xs.length - i) * K.sz)).toArray).heap[q]? = w.heap[q]? := fun q hq => setRow_other w g q _ hq
  have hall : ∀ w' S', Star (seqA K xs css) w' S' := fun w' S' => seq_flat hK h4 (fun j y d hy hd => K.own_ro (seq_at hseq hy hd)) w' S'
  refine ⟨.int .i64 ((xs.length - i : Nat) : Int), _, _, ?_, ⟨g, rfl, rfl, rfl⟩, hkk _ [gapA K g e c xs i m] S1 (Star.one (c := gapA K g e c xs i m) ⟨i1 g hg, _, css, setRow_heap w g cur _ e _ q1, ?_, h4, hlc, hall, ?_, ?_⟩) (fun b hb => .inl hb) ⟨rfl, rfl, rfl, by simp, fun b hb hn => hne b (fun e => hn (e ▸ i1 g hg))⟩⟩
  · refine exec_copy ho (hx a ha) (hs a ha) ?_
    have hmin : Nat.min (xs.length + m - i) (xs.length - i) = xs.length - i := Nat.min_eq_right (by omega)
    rw [hlA, hlB, add_plain', add_plain']
    rw [add_plain'] at hfc
    simp [Builtin.copy_, run_underlying ht, Builtin.lenOf, sizeOf, typeInfo, k1, k2, hmin, hfc, hst, goInt]
  · simp only [List.size_toArray, List.length_append, List.length_take, List.length_drop, hld]; omega
  · have hq : css.flatten.take (i * K.sz) = cur.toList.take (i * K.sz) := by
      rw [← q4, List.take_take, Nat.min_eq_left (by omega)]
    rw [flatten_take hlc, hq]
    simp only [List.append_assoc]
    rw [List.take_append_of_le_length (by rw [List.length_take]; omega), List.take_take, Nat.min_eq_left (by omega)]
  · have e1 : (cur.toList.take ((i + m) * K.sz)).length = (i + m) * K.sz := by rw [List.length_take]; omega
    simp only [List.append_assoc]
    rw [List.drop_append_of_le_length (by omega), List.drop_of_length_le (by omega), List.nil_append, List.take_append_of_le_length (by omega), List.take_of_length_le (by omega)]
theorem e_copyFill {α : Type} {K : Kd α} (hK : Flat K) {e by_ e2 by2 g i m c c1 : Nat} {xs ys : List α} {A1 : Option Addr} {xv : Value} {x s : Operand} {t t' : TypeId} (ho : o.op = .call { callee := .builtin .copy, args := #[x, s], argTypes := #[t, t'] }) (ht : P.underlying t = some (.slice e))
    (hi : (P.info? e).map (·.size) = some K.sz) (hx : Val T x (.slice A1 (xs.length + m - i) c1)) (h1A : A1 = (if c = i then some ⟨g, 0, none⟩ else some ((⟨g, 0, none⟩ : Addr).add (i * K.sz)))) (hs : Val T s xv)
    (hT : Takes l [gapA K g e c xs i m] l') (hsrc : ∀ w S1, Tr w0 S0 w S1 l' → (kslice e2 by2 K).ro w (FF w S1) ys [xv]) (hil : i < xs.length) (hm : ys.length = m) (hm0 : 0 < m) (hc : xs.length + m ≤ c) (h63 : c ≤ 9223372036854775807) (hb : (xs.length + m) * by_ ≤ 140737488355328) :
    Eff P o T w0 S0 l (fun r l2 => r = .int .i64 (m : Int) ∧ l2 = ownA (kslice e by_ K) (xs.take i ++ ys ++ xs.drop i) [.slice (some ⟨g, 0, none⟩) (xs.length + m) c] :: l') := by
  intro a w ha hw
  obtain ⟨S1, hA1, tr, hkk⟩ := (hw.takes hT).eff
  obtain ⟨css2, g1, g2, g3⟩ := src_flat (hsrc w S1 tr)
  obtain ⟨i0, k1, k2⟩ := Option.map_eq_some_iff.1 hi
  obtain ⟨b, c2, rfl, hcell⟩ : ∃ b c, xv = .slice (some b) ys.length c ∧ ∀ j u, css2.flatten[j]? = some u → w.cell? (b.add j) = some u := by
    rcases g2.from_ with h1 | ⟨_, h1⟩
    · exact h1
    · omega
  obtain ⟨hg, cur, css, q1, q2, q3, q4, q5, q6, q7⟩ := (show (gapA K g e c xs i m).p w S1 from hA1.head)
  have hl2 : css2.flatten.length = m * K.sz := by rw [← hm]; exact g2.len
  have hn : css2.length = ys.length := g1
  have hlc2 : ∀ d, d ∈ css2 → d.length = K.sz := fun d hd => by
    obtain ⟨j, hj, rfl⟩ := List.mem_iff_getElem.1 hd
    obtain ⟨y, hy⟩ := get_ex (xs := ys) (j := j) (by omega)
    exact K.ro_len (g3 j y _ hy (List.getElem?_eq_getElem hj))
  have hone : ∀ u, u ∈ css2.flatten → u.oneCell' = true := fun u hu => by
    obtain ⟨d, hd, hu2⟩ := List.mem_flatten.1 hu
    obtain ⟨j, hj, rfl⟩ := List.mem_iff_getElem.1 hd
    obtain ⟨y, hy⟩ := get_ex (xs := ys) (j := j) (by omega)
    exact K.ro_one (g3 j y _ hy (List.getElem?_eq_getElem hj)) u hu2
  have hcz : (xs.length + m) * K.sz ≤ c * K.sz := Nat.mul_le_mul_right _ hc
  have hiz : i * K.sz ≤ xs.length * K.sz := Nat.mul_le_mul_right _ (by omega)
  have hsum : (xs.length - i) * K.sz + i * K.sz = xs.length * K.sz := by rw [← Nat.add_mul]; congr 1; omega
  have him : (i + m) * K.sz = i * K.sz + m * K.sz := Nat.add_mul ..
  have hnm : (xs.length + m) * K.sz = xs.length * K.sz + m * K.sz := Nat.add_mul ..
  have hcur : cur.toList.length = cur.size := Array.length_toList
  have hlA : A1 = some ((⟨g, 0, none⟩ : Addr).add (i * K.sz)) := by rw [h1A, if_neg (by omega)]
  have hst := run_storeCells_at P g (i * K.sz) e css2.flatten 0 cur w q1 (by omega) hone
  simp only [Nat.add_zero, hl2] at hst
  have hfc := run_firstCells_some (P := P) w K.sz ys.length b ys.length c2 css2.flatten (by rw [hl2, hm]) hcell
  have hne : ∀ q, q ≠ g → (w.setRow g (cur.toList.take (i * K.sz) ++ css2.flatten ++ cur.toList.drop (i * K.sz + m * K.sz)).toArray).heap[q]? = w.heap[q]? := fun q hq => setRow_other w g q _ hq
  have hxl : (xs.take i ++ ys ++ xs.drop i).length = xs.length + m := by
    simp only [List.length_append, List.length_take, List.length_drop]; omega
  have hcl : (css.take i ++ css2 ++ css.drop i).length = (xs.take i ++ ys ++ xs.drop i).length := by
    simp only [List.length_append, List.length_take, List.length_drop]; omega
  have hlt : ((css.take i).flatten).length = i * K.sz := by rw [flatten_take q4, List.length_take, flatten_len q4, q3]; omega
  have hldr : ((css.drop i).flatten).length = (xs.length - i) * K.sz := by rw [flatten_drop q4, List.length_drop, flatten_len q4, q3, Nat.sub_mul]
  have hseq2 : ∀ (w' : World) (S' : Bs), Star (seqA K (xs.take i ++ ys ++ xs.drop i) (css.take i ++ css2 ++ css.drop i)) w' S' := fun w' S' => by
    refine seq_flat hK (w := w) (F := fun _ => True) hcl (fun j y d hy hd => ?_) w' S'
    have hti : (xs.take i).length = i := by rw [List.length_take]; omega
    have htc : (css.take i).length = i := by rw [List.length_take]; omega
    have up : ∀ {F : Bs} {y : α} {d : List Value}, K.ro w F y d → K.ro w (fun _ => True) y d := fun h => K.ro_up h (fun _ _ => trivial)
    by_cases hj : j < i
    · rw [List.append_assoc, List.getElem?_append_left (by omega), List.getElem?_take, if_pos hj] at hy hd
      exact up (K.own_ro (seq_at (q5 w (fun _ => False)) hy hd))
    · rw [List.append_assoc, List.getElem?_append_right (by omega), hti] at hy
      rw [List.append_assoc, List.getElem?_append_right (by omega), htc] at hd
      by_cases hj2 : j - i < ys.length
      · rw [List.getElem?_append_left hj2] at hy
        rw [List.getElem?_append_left (by omega)] at hd
        exact up (g3 _ y d hy hd)
      · rw [List.getElem?_append_right (by omega), List.getElem?_drop] at hy
        rw [List.getElem?_append_right (by omega), List.getElem?_drop, hn] at hd
        exact up (K.own_ro (seq_at (q5 w (fun _ => False)) hy hd))
  refine ⟨.int .i64 (m : Int), _, _, ?_, ⟨rfl, rfl⟩, hkk _ [ownA (kslice e by_ K) (xs.take i ++ ys ++ xs.drop i) [.slice (some ⟨g, 0, none⟩) (xs.length + m) c]] S1 (Star.one (c := ownA (kslice e by_ K) _ _) (.inr ⟨g, c, css.take i ++ css2 ++ css.drop i, by rw [hxl], by rw [hxl]; exact hc, h63, by rw [hxl]; exact hb, hcl, S1, fun _ => False, ⟨hg, _, setRow_heap w g cur _ e _ q1, ?_, ?_, ?_⟩, hseq2 _ _, fun _ h => h, fun _ h => h.elim, fun _ _ h => h⟩)) (fun b hb => .inl hb) ⟨rfl, rfl, rfl, by simp, fun b hb hn => hne b (fun e => hn (e ▸ hg))⟩⟩
  · refine exec_copy ho (hx a ha) (hs a ha) ?_
    have hmin : Nat.min ys.length (xs.length + m - i) = ys.length := Nat.min_eq_left (by omega)
    rw [hlA, add_plain']
    subst hm
    simp [Builtin.copy_, run_underlying ht, Builtin.lenOf, sizeOf, typeInfo, k1, k2, hmin, hfc, hst, goInt]
  · simp only [List.size_toArray, List.length_append, List.length_take, List.length_drop, hl2]; omega
  · simp only [List.flatten_append, List.size_toArray, List.length_append, List.length_take, List.length_drop, hl2, hlt, hldr]; omega
  · have e2 : (cur.toList.drop (i * K.sz + m * K.sz)).take ((xs.length - i) * K.sz) = (css.drop i).flatten := by rw [← him]; exact q7
    have e3 : (css.take i ++ css2 ++ css.drop i).flatten = cur.toList.take (i * K.sz) ++ css2.flatten ++ (cur.toList.drop (i * K.sz + m * K.sz)).take ((xs.length - i) * K.sz) := by
      rw [List.flatten_append, List.flatten_append, q6, e2]
    have e4 : (cur.toList.take (i * K.sz) ++ css2.flatten).length = i * K.sz + m * K.sz := by rw [List.length_append, List.length_take, hl2]; omega
    have e5 : ((cur.toList.drop (i * K.sz + m * K.sz)).take ((xs.length - i) * K.sz)).length = (xs.length - i) * K.sz := by rw [e2, hldr]
    rw [e3]
    show (cur.toList.take (i * K.sz) ++ css2.flatten ++ cur.toList.drop (i * K.sz + m * K.sz)).take _ = _
    rw [List.length_append, e4, e5, List.take_append, e4, List.take_of_length_le (by omega)]
    congr 2
    omega
/-- Two slices in two rows of one's own do not overlap. -/
theorem own_apart {α β : Type} {K : Kd α} {K2 : Kd β} {e by_ e2 by2 n c n2 c2 : Nat} {xs : List α} {ys : List β} {ad ad2 : Addr} {w : World} {S : Bs} (h : Star [ownA (kslice e by_ K) xs [.slice (some ad) n c], ownA (kslice e2 by2 K2) ys [.slice (some ad2) n2 c2]] w S) (hx : 0 < xs.length) (hy : 0 < ys.length) :
    ∃ g g2, ad = ⟨g, 0, none⟩ ∧ ad2 = ⟨g2, 0, none⟩ ∧ g ≠ g2 ∧ (∃ cur, w.heap[g]? = some (.cells cur e (0, 0)) ∧ 0 < cur.size) ∧ ∃ cur2, w.heap[g2]? = some (.cells cur2 e2 (0, 0)) ∧ 0 < cur2.size := by
  obtain ⟨A, B, hA, hB, i1, i2, d⟩ := h
  have hB' : (kslice e2 by2 K2).own w B ys [.slice (some ad2) n2 c2] := hB.head (c := ownA (kslice e2 by2 K2) ys _)
  rcases (show (kslice e by_ K).own w A xs [.slice (some ad) n c] from hA) with ⟨A0, hv, rfl⟩ | ⟨g, cc, css, hv, h1, h2, h3, h4, A1, A2, ⟨hg, cur, q1, q2, q3, q4⟩, hs1, j1, j2, dd⟩
  · simp at hx
  rcases hB' with ⟨A0, hv2, rfl⟩ | ⟨g2, cc2, css2, hv2, p1, p2, p3, p4, B1, B2, ⟨hg2, cur2, r1, r2, r3, r4⟩, hs2, o1, o2, dd2⟩
  · simp at hy
  have e1 := List.singleton_inj.1 hv
  have e2' := List.singleton_inj.1 hv2
  injection e1 with e1 _ _
  injection e2' with e2' _ _
  obtain rfl := Option.some.inj e1
  obtain rfl := Option.some.inj e2'
  refine ⟨g, g2, rfl, rfl, fun he => d g (j1 g hg) (he ▸ o1 g2 hg2), ⟨cur, q1, ?_⟩, cur2, r1, ?_⟩
  · rw [q2]; exact Nat.mul_pos (by omega) K.pos
  · rw [r2]; exact Nat.mul_pos (by omega) K2.pos
theorem exec_ext {f : FuncId} {as_ : Array Operand} {ts : Array TypeId} {a : Act} {w : World} {args : Array Value} {r : Value} (ho : o.op = .call { callee := .value (.func f), args := as_, argTypes := ts }) (ha : as_.map a.eval = args) (h : (callFunc f args).run P w = .ok (.value r) w) : (execOp a.eval o).run P w = .ok (.value r) w := by
  simp only [execOp, ho]
  simp [resolve, ha, Act.eval, Deferred.ofValue, invoke, h]
/-- The library's 'overlaps', at two slices of two rows of one's own. -/
theorem e_overlaps {α β : Type} {K : Kd α} {K2 : Kd β} {f : FuncId} {fn : Func} {tS tR e by_ by2 n c n2 c2 i lb cb : Nat} {xs : List α} {ys : List β} {ad ad2 : Addr} {B : Option Addr} {x y : Operand} {ts : Array TypeId}
    (ho : o.op = .call { callee := .value (.func f), args := #[x, y], argTypes := ts }) (hf : P.funcs[f]? = some fn) (hname : (fn.name == "runtime.NumGoroutine") = false) (hb : fn.body.isNone = true) (hnx : Extern.findNext fn = none) (he : Extern.find fn = some (Extern.SlicesOverlaps.overlaps #[tS, tS] #[tR]))
    (ht : P.underlying tS = some (.slice e)) (hi : (P.info? e).map (·.size) = some K.sz) (hx : Val T x (.slice (some ad2) n2 c2)) (hy : Val T y (.slice B lb cb)) (hB : B = (if c = i then some ad else some (ad.add (i * K.sz))))
    (hT : Takes l [ownA (kslice e by_ K) xs [.slice (some ad) n c], ownA (kslice e by2 K2) ys [.slice (some ad2) n2 c2]] l') (hx0 : 0 < xs.length) (hy0 : 0 < ys.length) :
    Eff P o T w0 S0 l (fun r l2 => r = .bool false ∧ l2 = ownA (kslice e by_ K) xs [.slice (some ad) n c] :: ownA (kslice e by2 K2) ys [.slice (some ad2) n2 c2] :: l') := by
  intro a w ha hw
  obtain ⟨S1, hA1, tr, hkk⟩ := (hw.takes hT).eff
  obtain ⟨g, g2, e1, e2, hne, ⟨cur, q1, q2⟩, cur2, r1, r2⟩ := own_apart hA1 hx0 hy0
  obtain ⟨i0, k1, k2⟩ := Option.map_eq_some_iff.1 hi
  refine ⟨.bool false, w, _, exec_ext ho (by simp [hx a ha, hy a ha] : #[x, y].map a.eval = #[.slice (some ad2) n2 c2, .slice B lb cb]) ?_, ⟨rfl, rfl⟩, hkk w _ S1 hA1 (fun b hb => .inl hb) (Fr.refl _ _)⟩
  have hz : ∀ w, (Go.sizeOf e).run P w = .ok K.sz w := fun w => by simp [sizeOf, typeInfo, k1, k2]
  obtain ⟨b', hb', hbb⟩ : ∃ b' : Addr, B = some b' ∧ b'.block = g := by
    subst e1
    rw [hB]
    split
    · exact ⟨_, rfl, rfl⟩
    · exact ⟨_, rfl, by rw [add_block]⟩
  subst hb'
  rw [run_callFunc_extern hf hname hb hnx he, Lib.run_overlaps_apart w tS tR e ht K.sz hz ad2 b' n2 c2 lb cb (by rw [hbb, e2]; exact fun h => hne h.symm) e e cur2.size cur.size (by rw [e2]; simp [World.shape?, r1]) (by rw [hbb]; simp [World.shape?, q1]) (by omega) (by rw [e2]; simp [World.frozen?, r1]) (by rw [e2]; simp [World.frozen?, r1])]
  rfl
/-- 'append(s[:i], make(..)...)' where there is no room: a new row; the old one is as it was. -/
theorem e_appendMake {α : Type} {K : Kd α} (hK : Flat K) {e by_ i k n c : Nat} {xs : List α} {x0 : α} {ad : Addr} {z : Value} {s q : Operand} {t tn : TypeId} {kq kn : IntKind} (ho : o.op = .call { callee := .builtin .append, args := #[s, q], argTypes := #[t, tn] }) (ht : P.underlying t = some (.slice e)) (htn : P.underlying tn = some (.int kn))
    (hi : (P.info? e).map (fun i => (i.size, i.bytes, i.zero)) = some (K.sz, by_, some z)) (hz : z.cells.size = K.sz) (h0 : ∀ w S, K.own w S x0 z.cells.toList) (hs : Val T s (.slice (some ad) i c)) (hq : Val T q (.int kq (k : Int)))
    (hT : Takes l [ownA (kslice e by_ K) xs [.slice (some ad) n c]] l') (hil : i < xs.length) (hk : 0 < k) (hg : c < i + k) (hb : (i + k) * by_ ≤ 140737488355328) (h63 : i + k ≤ 140737488355328) :
    Eff P o T w0 S0 l (fun r l2 => l2 = ownA (kslice e by_ K) (xs.take i ++ List.replicate k x0) [r] :: ownA (kslice e by_ K) xs [.slice (some ad) n c] :: l') := by
  intro a w ha hw
  obtain ⟨S1, hA1, tr, hkk⟩ := (hw.takes hT).eff
  obtain ⟨i0, k1, k2⟩ := Option.map_eq_some_iff.1 hi
  obtain ⟨k2, k3⟩ := Prod.mk.inj k2
  obtain ⟨k3, k4⟩ := Prod.mk.inj k3
  have hold0 := hA1.head
  rcases (show (kslice e by_ K).own w S1 xs [.slice (some ad) n c] from hold0) with ⟨A, hv, rfl⟩ | ⟨g, cc, css, hv, h1, h2, h3, h4, h5⟩
  · simp at hil
  have hv' := List.singleton_inj.1 hv
  injection hv' with e1 e2 e3
  obtain rfl := Option.some.inj e1
  subst e3
  obtain ⟨B1, B2, ⟨hg1, cur, q1, q2, q3, q4⟩, hseq, i1, i2, dd⟩ := h5
  have hlc := seq_len h4 hseq
  have hlt : ((css.take i).flatten).length = i * K.sz := by
    have h6 : i * K.sz ≤ xs.length * K.sz := Nat.mul_le_mul_right _ (by omega)
    rw [flatten_take hlc, List.length_take, flatten_len hlc, h4]; omega
  have hpos := K.pos
  have hold := run_firstCells_some (P := P) (w := w.drew) i0.size i ⟨g, 0, none⟩ i c (css.take i).flatten (by rw [k2]; exact hlt) (fun j u hu => by
    rw [flatten_take hlc, List.getElem?_take] at hu
    split at hu
    · rw [add_plain']
      exact row_cell (S := B1) (w := w) ⟨hg1, cur, q1, q2, q3, q4⟩ hu
    · cases hu)
  have hkb : k * by_ ≤ (i + k) * by_ := Nat.mul_le_mul_right _ (by omega)
  have hr := Lib.run_append_grow_zeros (P := P) w t tn o.type e i0 z kq kn ht htn k1 k4 (some ⟨g, 0, none⟩) i c (css.take i).flatten hold k hk (by omega) hg (by omega) (by rw [k3]; omega) (growslice_fits hg (by rw [k3]; exact hb))
  have hge := grownCap_ge w (i + k) c e
  have hcm := grownCap_le_maxLen w (i + k) c e (by unfold maxLen; omega)
  unfold maxLen at hcm
  have hxl : (xs.take i ++ List.replicate k x0).length = i + k := by rw [List.length_append, List.length_take, List.length_replicate]; omega
  have hcl : (css.take i ++ List.replicate k z.cells.toList).length = (xs.take i ++ List.replicate k x0).length := by
    rw [hxl, List.length_append, List.length_take, List.length_replicate]; omega
  have hzk : (Builtin.zeroCells z.cells k).toList = (List.replicate k z.cells.toList).flatten := by
    have := madeCells_flat z.cells k (by omega)
    rw [← this]
    rfl
  have hzl : ((List.replicate k z.cells.toList).flatten).length = k * K.sz := by rw [← hzk, Array.length_toList, size_zeroCells, hz]
  have hall : ∀ (b : Nat), b < w.heap.size → (w.drew.alloc (.cells ((css.take i).flatten.toArray ++ Builtin.zeroCells z.cells k ++ Builtin.zeroCells z.cells (grownCap w (i + k) c e - (i + k))) e)).heap[b]? = w.heap[b]? := fun b hb => Below.heap_alloc w.drew _ b hb
  have hsq : ∀ (w' : World) (S' : Bs), Star (seqA K (xs.take i ++ List.replicate k x0) (css.take i ++ List.replicate k z.cells.toList)) w' S' := fun w' S' => by
    refine seq_app (S1 := fun _ => False) (S2 := fun _ => False) (by rw [List.length_take, List.length_take, h4]) ?_ (seq_rep h0 k w' _) (fun _ h => h.elim) (fun _ h => h.elim) (fun _ h => h.elim)
    refine seq_flat hK (w := w) (F := fun _ => True) (by rw [List.length_take, List.length_take, h4]) (fun j y d hy hd => ?_) w' _
    rw [List.getElem?_take] at hy hd
    split at hy
    · rename_i hj
      rw [if_pos hj] at hd
      exact K.ro_up (K.own_ro (seq_at hseq hy hd)) (fun _ _ => trivial)
    · cases hy
  refine ⟨_, _, _, ?_, rfl, hkk _ [ownA (kslice e by_ K) (xs.take i ++ List.replicate k x0) [.slice (some ⟨w.heap.size, 0, none⟩) (i + k) (grownCap w (i + k) c e)], ownA (kslice e by_ K) xs [.slice (some ⟨g, 0, none⟩) n c]] (fun b => b = w.heap.size ∨ (S1 b ∧ b < w.heap.size)) ⟨fun b => b = w.heap.size, fun b => S1 b ∧ b < w.heap.size, ?_, Star.one (c := ownA (kslice e by_ K) xs _) (Asn.loc _ (Asn.lt _ hold0) (fun b hb => hall b hb.2)), fun b hb => .inl hb, fun b hb => .inr hb, fun b hb hb2 => by have := hb2.2; omega⟩ (fun b hb => hb.elim (fun h => .inr (by omega)) (fun h => .inl h.1)) ⟨rfl, rfl, rfl, by simp, fun b hb _ => hall b hb⟩⟩
  · simp only [execOp, ho, hs a ha, hq a ha]
    simp [resolve, hs a ha, hq a ha, invoke, builtin, hr]
  · refine .inr ⟨w.heap.size, _, css.take i ++ List.replicate k z.cells.toList, by rw [hxl], by rw [hxl]; exact hge, by omega, by rw [hxl]; exact hb, hcl, fun b => b = w.heap.size, fun _ => False, ⟨rfl, _, heap_alloc_new w.drew _, ?_, ?_, ?_⟩, hsq _ _, fun b hb => hb, fun _ h => h.elim, fun _ _ h => h⟩
    · simp only [Array.size_append, List.size_toArray, size_zeroCells, hz, hlt, ← Nat.add_mul]
      congr 1; omega
    · rw [List.flatten_append, List.length_append, hlt, hzl]
      simp only [Array.size_append, List.size_toArray, size_zeroCells, hz, hlt]; omega
    · rw [List.flatten_append, ← hzk]
      simp only [Array.toList_append]
      exact List.take_left
theorem q_cap {Wd : World → Prop} {x : Operand} {t e : TypeId} {n c : Nat} {A : Option Addr} (ho : o.op = .call { callee := .builtin .cap, args := #[x], argTypes := #[t] }) (ht : P.underlying t = some (.slice e)) (hx : Val T x (.slice A n c)) : Quiet P o T Wd (.int .i64 (c : Int)) := fun a w ha _ => by
  simp only [execOp, ho]
  simp [resolve, hx a ha, invoke, builtin, Builtin.cap_, run_underlying ht, goInt]
theorem cpy_n {x : Operand} {A : Option Addr} {n m c : Nat} (h : Val T x (.slice A n c)) (e : n = m) : Val T x (.slice A m c) := e ▸ h
end
end Go.Proofs.Ytkmcpcahbfdohaa
/- What is proved: granting a run of blocks, in plain Lean. No condition. -/
namespace Go.Proofs.Ytkmcpcahbfdohaa
open Go Go.RowKit
set_option linter.unusedVariables false
set_option linter.unusedSimpArgs false
def ovP (n : DExt) : DExt → Bool := fun x => decide (n.frm < IntKind.i64.wrap (x.frm + x.cnt)) && decide (x.frm < IntKind.i64.wrap (n.frm + n.cnt))
theorem ov_iff {N : Nat} {n x : DExt} (hN : N ≤ 60) (hn : isExt N n) (hx : isExt N x) : ovP n x = (decide (n.frm < x.frm + x.cnt) && decide (x.frm < n.frm + n.cnt)) := by
  obtain ⟨_, ⟨h1, h2⟩, ⟨h3, h4⟩, h5⟩ := hn
  obtain ⟨_, ⟨g1, g2⟩, ⟨g3, g4⟩, g5⟩ := hx
  unfold ovP
  rw [show IntKind.i64.wrap (x.frm + x.cnt) = x.frm + x.cnt from wr rfl (by omega) (by omega), show IntKind.i64.wrap (n.frm + n.cnt) = n.frm + n.cnt from wr rfl (by omega) (by omega)]
theorem ov_f1 {N : Nat} {n x : DExt} (hN : N ≤ 60) (hn : isExt N n) (hx : isExt N x) (h : ¬ n.frm < x.frm + x.cnt) : ovP n x = false := by rw [ov_iff hN hn hx, decide_eq_false h]; rfl
theorem ov_f2 {N : Nat} {n x : DExt} (hN : N ≤ 60) (hn : isExt N n) (hx : isExt N x) (h : ¬ x.frm < n.frm + n.cnt) : ovP n x = false := by rw [ov_iff hN hn hx, decide_eq_false h, Bool.and_false]
theorem ov_t {N : Nat} {n x : DExt} (hN : N ≤ 60) (hn : isExt N n) (hx : isExt N x) (h1 : n.frm < x.frm + x.cnt) (h2 : x.frm < n.frm + n.cnt) : ovP n x = true := by rw [ov_iff hN hn hx, decide_eq_true h1, decide_eq_true h2]; rfl
theorem exts_lo {n : Nat} : ∀ {es : List DExt} {lo : Int}, extsFault n lo es = 0 → ∀ (j : Nat) e, es[j]? = some e → lo ≤ e.frm
  | [], _, _, j, e, h => by simp at h
  | x :: es, lo, h, j, e, he => by
    unfold extsFault at h
    split at h
    · rename_i hx
      split at h
      · exact absurd h (by decide)
      · cases j with
        | zero => simp at he; subst he; omega
        | succ j =>
          have h1 := exts_lo h j e (by simpa using he)
          have h2 := hx.2.2.1
          omega
    · exact absurd h (by decide)
theorem exts_sorted {n : Nat} : ∀ {es : List DExt} {lo : Int}, extsFault n lo es = 0 → ∀ (i j : Nat) (d e : DExt), i < j → es[i]? = some d → es[j]? = some e → d.frm < e.frm
  | [], _, _, i, j, d, e, _, h, _ => by simp at h
  | x :: es, lo, h, i, j, d, e, hij, hd, he => by
    unfold extsFault at h
    split at h
    · rename_i hx
      split at h
      · exact absurd h (by decide)
      · obtain ⟨j, rfl⟩ : ∃ q, j = q + 1 := ⟨j - 1, by omega⟩
        cases i with
        | zero =>
          simp at hd
          subst hd
          have h1 := exts_lo h j e (by simpa using he)
          have h2 := hx.2.2.1
          omega
        | succ i => exact exts_sorted h i j d e (by omega) (by simpa using hd) (by simpa using he)
    · exact absurd h (by decide)
theorem kernFault_exts {k : DKern} (h : kernFault k = 0) : extsFault k.disk.blocks.length 0 k.exts = 0 := by
  unfold kernFault at h
  split at h
  · split at h
    · exact absurd h (by decide)
    · exact h
  · contradiction
def grantI (es : List DExt) (f : Int) : Nat := (es.takeWhile (fun x => decide (x.frm < f))).length
theorem grantI_eq {f : Int} : ∀ {es : List DExt} {k : Nat}, (∀ (j : Nat) e, j < k → es[j]? = some e → e.frm < f) → k ≤ es.length → (k = es.length ∨ ∃ e, es[k]? = some e ∧ ¬ e.frm < f) → grantI es f = k
  | [], k, _, hk, _ => by simp at hk; subst hk; rfl
  | x :: es, 0, _, _, h => by
    rcases h with h | ⟨e, he, hn⟩
    · simp at h
    · simp at he; subst he
      simp [grantI, hn]
  | x :: es, k + 1, ha, hk, h => by
    have h0 := ha 0 x (by omega) rfl
    have ih := grantI_eq (f := f) (es := es) (k := k) (fun j e hj he => ha (j + 1) e (by omega) (by simpa using he)) (by simpa using hk) (h.elim (fun h => .inl (by simpa using h)) (fun ⟨e, he, hn⟩ => .inr ⟨e, by simpa using he, hn⟩))
    unfold grantI at ih ⊢
    simp [h0, ih]
structure GI (es : List DExt) (f : Int) (q m : Nat) : Prop where
  le : m ≤ q
  hd : ∀ (j : Nat) e, j < m → es[j]? = some e → e.frm < f
  tl : ∀ (j : Nat) e, m ≤ j → j < q → es[j]? = some e → ¬ e.frm < f
theorem GI_0 {es : List DExt} {f : Int} : GI es f 0 0 := ⟨Nat.le_refl _, fun _ _ h => by omega, fun _ _ _ h => by omega⟩
theorem GI_y {n : Nat} {es : List DExt} {f : Int} {q m : Nat} {x : DExt} (hs : extsFault n 0 es = 0) (h : GI es f q m) (hx : es[q]? = some x) (hf : x.frm < f) : GI es f (q + 1) (q + 1) := ⟨Nat.le_refl _, fun j e hj he => by
  by_cases hjq : j = q
  · subst hjq; rw [hx] at he; obtain rfl := Option.some.inj he; exact hf
  · have := exts_sorted hs j q e x (by omega) he hx; omega, fun j e h1 h2 => by omega⟩
theorem GI_n {es : List DExt} {f : Int} {q m : Nat} {x : DExt} (h : GI es f q m) (hx : es[q]? = some x) (hf : ¬ x.frm < f) : GI es f (q + 1) m := ⟨by have := h.le; omega, h.hd, fun j e h1 h2 he => by
  by_cases hjq : j = q
  · subst hjq; rw [hx] at he; obtain rfl := Option.some.inj he; exact hf
  · exact h.tl j e h1 (by omega) he⟩
theorem GI_end {es : List DExt} {f : Int} {q m : Nat} (h : GI es f q m) (hq : es.length ≤ q) (hq2 : q ≤ es.length) : grantI es f = m := by
  refine grantI_eq h.hd (by have := h.le; omega) ?_
  by_cases hm : m = es.length
  · exact .inl hm
  · have := h.le
    obtain ⟨e, he⟩ := get_ex (xs := es) (j := m) (by omega)
    exact .inr ⟨e, he, h.tl m e (Nat.le_refl _) (by omega) he⟩
abbrev grantE (es : List DExt) (n : DExt) : List DExt := es.take (grantI es n.frm) ++ [n] ++ es.drop (grantI es n.frm)
def grant (k : DKern) (n : DExt) : RKern := if kernFault k = 0 then if isExt k.disk.blocks.length n then if k.exts.any (ovP n) = true then badKern 7 else if (8 : Int) ≤ k.exts.length then badKern 2 else ⟨0, [], ⟨k.disk, grantE k.exts n⟩⟩ else badKern 3 else badKern (kernFault k)
theorem grant_f {k : DKern} {n : DExt} (h : ¬ kernFault k = 0) : grant k n = badKern (kernFault k) := if_neg h
theorem grant_3 {k : DKern} {n : DExt} (h : kernFault k = 0) (h2 : ¬ isExt k.disk.blocks.length n) : grant k n = badKern 3 := by unfold grant; rw [if_pos h, if_neg h2]
theorem grant_7 {k : DKern} {n : DExt} (h : kernFault k = 0) (h2 : isExt k.disk.blocks.length n) (h3 : k.exts.any (ovP n) = true) : grant k n = badKern 7 := by unfold grant; rw [if_pos h, if_pos h2, if_pos h3]
theorem grant_2 {k : DKern} {n : DExt} (h : kernFault k = 0) (h2 : isExt k.disk.blocks.length n) (h3 : k.exts.any (ovP n) = false) (h4 : (8 : Int) ≤ k.exts.length) : grant k n = badKern 2 := by unfold grant; rw [if_pos h, if_pos h2, if_neg (by rw [h3]; decide), if_pos h4]
theorem grant_0 {k : DKern} {n : DExt} {i : Nat} (h : kernFault k = 0) (h2 : isExt k.disk.blocks.length n) (h3 : k.exts.any (ovP n) = false) (h4 : ¬ (8 : Int) ≤ k.exts.length) (hi : grantI k.exts n.frm = i) : grant k n = ⟨0, [], ⟨k.disk, k.exts.take i ++ [n] ++ k.exts.drop i⟩⟩ := by subst hi; unfold grant; rw [if_pos h, if_pos h2, if_neg (by rw [h3]; decide), if_neg h4]
theorem ov_no {n : DExt} {es : List DExt} {q : Nat} (hq : es.length ≤ q) (h : ∀ (j : Nat) e, j < q → es[j]? = some e → ovP n e = false) : es.any (ovP n) = false := by
  rw [List.any_eq_false]
  intro x hx
  obtain ⟨j, hj⟩ := List.mem_iff_getElem?.1 hx
  have := h j x (by have := (List.getElem?_eq_some_iff.1 hj).1; omega) hj
  rw [this]; decide
end Go.Proofs.Ytkmcpcahbfdohaa
/- What is proved: names, inodes and their faults, in plain Lean. No condition. -/
namespace Go.Proofs.Ytkmcpcahbfdohaa
open Go Go.RowKit
set_option linter.unusedVariables false
set_option linter.unusedSimpArgs false
/-! ### names -/
abbrev lowB (b : UInt8) : Prop := (97 : Int) ≤ (b.toNat : Int) ∧ (b.toNat : Int) ≤ 122
def nameFault (s : ByteArray) : Int := if s.data.toList.all (fun b => decide (lowB b)) = true then (if s.size = 0 then 5 else if 4 < s.size then 2 else 0) else 5
theorem nameFault_5 {s : ByteArray} {k : Nat} {b : UInt8} (hb : s.data.toList[k]? = some b) (h : ¬ lowB b) : nameFault s = 5 := by
  unfold nameFault
  rw [if_neg]
  intro ha
  exact h (of_decide_eq_true (List.all_eq_true.1 ha b (List.mem_of_getElem? hb)))
theorem low_all {s : ByteArray} (h : ∀ j b, j < s.size → s.data.toList[j]? = some b → lowB b) : s.data.toList.all (fun b => decide (lowB b)) = true :=
  List.all_eq_true.2 fun b hb => by
    obtain ⟨j, hj⟩ := List.mem_iff_getElem?.1 hb
    exact decide_eq_true (h j b (by have := (List.getElem?_eq_some_iff.1 hj).1; rw [str_len] at this; exact this) hj)
theorem size_e {s : ByteArray} (h : s = ⟨#[]⟩) : s.size = 0 := by subst h; rfl
theorem size_ne {s : ByteArray} (h : ¬ s = ⟨#[]⟩) : ¬ s.size = 0 := fun h0 => h (by
  cases s with
  | mk d => have : d.size = 0 := h0
            rw [Array.size_eq_zero_iff] at this
            rw [this])
theorem nameFault_e {s : ByteArray} (h : s = ⟨#[]⟩) : nameFault s = 5 := by
  subst h
  decide
theorem nameFault_2 {s : ByteArray} (hall : ∀ j b, j < s.size → s.data.toList[j]? = some b → lowB b) (h : ¬ s = ⟨#[]⟩) (h4 : (4 : Int) < (s.size : Int)) : nameFault s = 2 := by
  unfold nameFault
  rw [if_pos (low_all hall), if_neg (size_ne h), if_pos (by omega)]
theorem nameFault_0 {s : ByteArray} (hall : ∀ j b, j < s.size → s.data.toList[j]? = some b → lowB b) (h : ¬ s = ⟨#[]⟩) (h4 : ¬ (4 : Int) < (s.size : Int)) : nameFault s = 0 := by
  unfold nameFault
  rw [if_pos (low_all hall), if_neg (size_ne h), if_neg (by omega)]
theorem name_4 {s : ByteArray} (h : nameFault s = 0) : s.size ≤ 4 ∧ 0 < s.size := by
  unfold nameFault at h
  split at h
  · split at h
    · exact absurd h (by decide)
    · split at h
      · exact absurd h (by decide)
      · omega
  · exact absurd h (by decide)
/-! ### strings in order -/
theorem bl_tri : ∀ x y : List UInt8, (Op.bytesLess x y || decide (x = y)) = !Op.bytesLess y x
  | [], [] => by simp [Op.bytesLess]
  | [], b :: y => by simp [Op.bytesLess]
  | a :: x, [] => by simp [Op.bytesLess]
  | a :: x, b :: y => by
    have ih := bl_tri x y
    simp only [Op.bytesLess, List.cons.injEq]
    by_cases h : a = b
    · subst h
      have : ¬ a < a := UInt8.lt_irrefl a
      simp [this] at ih ⊢
      exact ih
    · have h' : ¬ b = a := fun e => h e.symm
      simp [h, h']
      rcases UInt8.lt_or_lt_of_ne h with g | g
      · have : ¬ b < a := UInt8.lt_asymm g
        simp [g, this, UInt8.le_of_lt g]
        exact .inl h'
      · have : ¬ a < b := UInt8.lt_asymm g
        simp [g, this]
        exact fun e => absurd e h
theorem toList_inj {s u : ByteArray} : s.toList = u.toList ↔ s = u := by
  constructor
  · intro h
    have h2 : s.data.toList = u.data.toList := by simpa [ByteArray.toList_eq] using h
    cases s; cases u
    simp at h2
    rw [h2]
  · rintro rfl; rfl
theorem sle_not (s u : ByteArray) : (sLt s u || decide (s = u)) = !sLt u s := by
  have := bl_tri s.toList u.toList
  unfold sLt
  rw [← this]
  congr 1
  rw [decide_eq_decide]
  exact toList_inj.symm
theorem bytesLess_irr : ∀ xs : List UInt8, Op.bytesLess xs xs = false
  | [] => by simp [Op.bytesLess]
  | x :: xs => by simp [Op.bytesLess, bytesLess_irr xs]
/-! ### files -/
def fileFault (x : DInode) : Int :=
  if (1 ≤ x.links ∧ x.links ≤ 60) ∧ (0 ≤ x.size ∧ x.size ≤ 32) then
    if (x.blocks.length : Int) = (x.size + 7) / 8 then
      if x.blocks.any (fun b => !decide (0 ≤ b ∧ b ≤ 19)) = true then 3 else if x.blocks.Nodup then 0 else 7
    else 1
  else 3
theorem fileFault_3 {x : DInode} (h : ¬ ((1 ≤ x.links ∧ x.links ≤ 60) ∧ (0 ≤ x.size ∧ x.size ≤ 32))) : fileFault x = 3 := if_neg h
theorem fileFault_1 {x : DInode} (h : (1 ≤ x.links ∧ x.links ≤ 60) ∧ (0 ≤ x.size ∧ x.size ≤ 32)) (h2 : ¬ (x.blocks.length : Int) = (x.size + 7) / 8) : fileFault x = 1 := by
  unfold fileFault; rw [if_pos h, if_neg h2]
theorem fileFault_3' {x : DInode} (h : (1 ≤ x.links ∧ x.links ≤ 60) ∧ (0 ≤ x.size ∧ x.size ≤ 32)) (h2 : (x.blocks.length : Int) = (x.size + 7) / 8) (h3 : x.blocks.any (fun b => !decide (0 ≤ b ∧ b ≤ 19)) = true) : fileFault x = 3 := by
  unfold fileFault; rw [if_pos h, if_pos h2, if_pos h3]
theorem fileFault_7 {x : DInode} (h : (1 ≤ x.links ∧ x.links ≤ 60) ∧ (0 ≤ x.size ∧ x.size ≤ 32)) (h2 : (x.blocks.length : Int) = (x.size + 7) / 8) (h3 : x.blocks.any (fun b => !decide (0 ≤ b ∧ b ≤ 19)) = false) (h4 : ¬ x.blocks.Nodup) : fileFault x = 7 := by
  unfold fileFault; rw [if_pos h, if_pos h2, if_neg (by rw [h3]; decide), if_neg h4]
theorem fileFault_0 {x : DInode} (h : (1 ≤ x.links ∧ x.links ≤ 60) ∧ (0 ≤ x.size ∧ x.size ≤ 32)) (h2 : (x.blocks.length : Int) = (x.size + 7) / 8) (h3 : x.blocks.any (fun b => !decide (0 ≤ b ∧ b ≤ 19)) = false) (h4 : x.blocks.Nodup) : fileFault x = 0 := by
  unfold fileFault; rw [if_pos h, if_pos h2, if_neg (by rw [h3]; decide), if_pos h4]
theorem nodup_s {α : Type} {xs : List α} {k : Nat} {b : α} (h : (xs.take k).Nodup) (hb : xs[k]? = some b) (hn : ¬ b ∈ xs.take k) : (xs.take (k + 1)).Nodup := by
  rw [← take_snoc hb]
  exact List.nodup_append.2 ⟨h, by simp, fun a ha c hc => by
    obtain rfl := List.mem_singleton.1 hc
    exact fun e => hn (e ▸ ha)⟩
theorem not_nodup {α : Type} {xs : List α} {k : Nat} {b : α} (hb : xs[k]? = some b) (hm : b ∈ xs.take k) : ¬ xs.Nodup := fun h => by
  have : (xs.take (k + 1)).Nodup := h.sublist (List.take_sublist _ _)
  rw [← take_snoc hb] at this
  exact (List.nodup_append.1 this).2.2 b hm b (List.mem_singleton.2 rfl) rfl
theorem mem_take_of {α : Type} {xs : List α} {k q : Nat} {b : α} (hb : xs[q]? = some b) (h : q < k) : b ∈ xs.take k := by
  refine List.mem_of_getElem? (i := q) ?_
  rw [List.getElem?_take, if_pos h]
  exact hb
theorem not_mem_take {α : Type} {xs : List α} {k : Nat} {b : α} (h : ∀ j y, j < k → xs[j]? = some y → ¬ y = b) : ¬ b ∈ xs.take k := fun hm => by
  obtain ⟨j, hj⟩ := List.mem_iff_getElem?.1 hm
  rw [List.getElem?_take] at hj
  split at hj
  · rename_i hlt; exact h j b hlt hj rfl
  · cases hj
theorem any_bad {xs : List Int} {k : Nat} {b : Int} (hb : xs[k]? = some b) (h : ¬ (0 ≤ b ∧ b ≤ 19)) : xs.any (fun b => !decide (0 ≤ b ∧ b ≤ 19)) = true :=
  List.any_eq_true.2 ⟨b, List.mem_of_getElem? hb, by simp only [decide_eq_false h]; rfl⟩
theorem any_ok {xs : List Int} (h : ∀ j b, j < xs.length → xs[j]? = some b → 0 ≤ b ∧ b ≤ 19) : xs.any (fun b => !decide (0 ≤ b ∧ b ≤ 19)) = false := by
  rw [List.any_eq_false]
  intro b hb
  obtain ⟨j, hj⟩ := List.mem_iff_getElem?.1 hb
  rw [decide_eq_true (h j b (List.getElem?_eq_some_iff.1 hj).1 hj)]
  decide
def busyFault (xs : List Int) : Int := if 20 < xs.length then 2 else if xs.any (fun b => !decide (0 ≤ b ∧ b ≤ 19)) = true then 3 else 0
theorem busyFault_2 {xs : List Int} (h : (20 : Int) < (xs.length : Int)) : busyFault xs = 2 := if_pos (by omega)
theorem busyFault_3 {xs : List Int} (h : ¬ (20 : Int) < (xs.length : Int)) (h2 : xs.any (fun b => !decide (0 ≤ b ∧ b ≤ 19)) = true) : busyFault xs = 3 := by unfold busyFault; rw [if_neg (by omega), if_pos h2]
theorem busyFault_0 {xs : List Int} (h : ¬ (20 : Int) < (xs.length : Int)) (h2 : xs.any (fun b => !decide (0 ≤ b ∧ b ≤ 19)) = false) : busyFault xs = 0 := by unfold busyFault; rw [if_neg (by omega), if_neg (by rw [h2]; decide)]
/-! ### directories -/
def entOk (es : List DEnt) (j : Nat) (e : DEnt) : Int :=
  if nameFault e.name = 0 then if 0 ≤ e.ino ∧ e.ino ≤ 9 then (match (if j = 0 then none else es[j - 1]?) with | some p => if sLt p.name e.name = true then 0 else 1 | none => 0) else 3 else nameFault e.name
def entAt (es : List DEnt) (j : Nat) : Int := match es[j]? with | some e => entOk es j e | none => 0
def firstN (f : Nat → Int) (n : Nat) : Int := firstF f (List.range n)
theorem firstN_some {f : Nat → Int} {n k : Nat} (hk : k < n) (h : ¬ f k = 0) (ha : ∀ j, j < k → f j = 0) : firstN f n = f k :=
  firstF_some (k := k) (x := k) (by simp [hk]) h (fun j y hj hy => by
    have : j < n := by omega
    simp [this] at hy
    subst hy
    exact ha j hj)
theorem firstN_none {f : Nat → Int} {n : Nat} (ha : ∀ j, j < n → f j = 0) : firstN f n = 0 :=
  firstF_none (fun j y hy => by
    have := (List.getElem?_eq_some_iff.1 hy)
    obtain ⟨h1, h2⟩ := this
    simp at h1 h2
    subst h2
    exact ha j h1)
def dirFault (x : DInode) : Int := if 6 < x.ents.length then 2 else firstN (entAt x.ents) x.ents.length
theorem dirFault_2 {x : DInode} (h : (6 : Int) < (x.ents.length : Int)) : dirFault x = 2 := if_pos (by omega)
theorem dirFault_s {x : DInode} {k : Nat} {e : DEnt} (h : ¬ (6 : Int) < (x.ents.length : Int)) (he : x.ents[k]? = some e) (hn : ¬ entOk x.ents k e = 0) (ha : ∀ j, j < k → entAt x.ents j = 0) : dirFault x = entOk x.ents k e := by
  have e1 : entAt x.ents k = entOk x.ents k e := by unfold entAt; rw [he]
  unfold dirFault
  rw [if_neg (by omega), firstN_some (List.getElem?_eq_some_iff.1 he).1 (by rw [e1]; exact hn) ha, e1]
theorem dirFault_0 {x : DInode} (h : ¬ (6 : Int) < (x.ents.length : Int)) (ha : ∀ j, j < x.ents.length → entAt x.ents j = 0) : dirFault x = 0 := by
  unfold dirFault; rw [if_neg (by omega), firstN_none ha]
theorem entOk_n {es : List DEnt} {j : Nat} {e : DEnt} (h : ¬ nameFault e.name = 0) : entOk es j e = nameFault e.name := if_neg h
theorem entOk_3 {es : List DEnt} {j : Nat} {e : DEnt} (h : nameFault e.name = 0) (h2 : ¬ (0 ≤ e.ino ∧ e.ino ≤ 9)) : entOk es j e = 3 := by unfold entOk; rw [if_pos h, if_neg h2]
theorem entOk_1 {es : List DEnt} {j : Nat} {e p : DEnt} (h : nameFault e.name = 0) (h2 : 0 ≤ e.ino ∧ e.ino ≤ 9) (hj : 0 < j) (hp : es[j - 1]? = some p) (hl : sLt p.name e.name = false) : entOk es j e = 1 := by
  unfold entOk; rw [if_pos h, if_pos h2, if_neg (by omega), hp]; simp [hl]
theorem entOk_p {es : List DEnt} {j : Nat} {e p : DEnt} (h : nameFault e.name = 0) (h2 : 0 ≤ e.ino ∧ e.ino ≤ 9) (hj : 0 < j) (hp : es[j - 1]? = some p) (hl : sLt p.name e.name = true) : entOk es j e = 0 := by
  unfold entOk; rw [if_pos h, if_pos h2, if_neg (by omega), hp]; simp [hl]
theorem entOk_z {es : List DEnt} {j : Nat} {e : DEnt} (h : nameFault e.name = 0) (h2 : 0 ≤ e.ino ∧ e.ino ≤ 9) (hj : j = 0) : entOk es j e = 0 := by
  unfold entOk; rw [if_pos h, if_pos h2, if_pos hj]
theorem entAt_s {es : List DEnt} {k : Nat} {e : DEnt} (ha : ∀ j, j < k → entAt es j = 0) (he : es[k]? = some e) (h : entOk es k e = 0) : ∀ j, j < k + 1 → entAt es j = 0 := fun j hj => by
  by_cases hk : j < k
  · exact ha j hk
  · obtain rfl : j = k := by omega
    unfold entAt; rw [he]; exact h
def inodeFault (x : DInode) : Int :=
  if 0 ≤ x.kind ∧ x.kind ≤ 2 then
    if (x.kind ≠ 1 ∧ ¬ (x.links = 0 ∧ x.size = 0 ∧ x.blocks.length = 0)) ∨ (x.kind ≠ 2 ∧ ¬ x.ents.length = 0) then 1
    else if x.kind = 1 then fileFault x else if x.kind = 2 then dirFault x else 0
  else 1
theorem inodeFault_k {x : DInode} (h : ¬ (0 ≤ x.kind ∧ x.kind ≤ 2)) : inodeFault x = 1 := if_neg h
theorem inodeFault_1 {x : DInode} (h : (x.kind ≠ 1 ∧ ¬ (x.links = 0 ∧ x.size = 0 ∧ x.blocks.length = 0)) ∨ (x.kind ≠ 2 ∧ ¬ x.ents.length = 0)) : inodeFault x = 1 := by
  unfold inodeFault
  by_cases hk : 0 ≤ x.kind ∧ x.kind ≤ 2
  · rw [if_pos hk, if_pos h]
  · rw [if_neg hk]
theorem inodeFault_f {x : DInode} (h : x.kind = 1) (h2 : x.ents.length = 0) : inodeFault x = fileFault x := by
  unfold inodeFault; rw [if_pos (by omega), if_neg (by omega), if_pos h]
theorem inodeFault_d {x : DInode} (h : x.kind = 2) (h2 : x.links = 0 ∧ x.size = 0 ∧ x.blocks.length = 0) : inodeFault x = dirFault x := by
  unfold inodeFault; rw [if_pos (by omega), if_neg (by omega), if_neg (by omega), if_pos h]
theorem inodeFault_0 {x : DInode} (h : x.kind = 0) (h2 : x.links = 0 ∧ x.size = 0 ∧ x.blocks.length = 0) (h3 : x.ents.length = 0) : inodeFault x = 0 := by
  unfold inodeFault; rw [if_pos (by omega), if_neg (by omega), if_neg (by omega), if_neg (by omega)]
theorem inodeFault_r {x : DInode} (h : 0 ≤ x.kind ∧ x.kind ≤ 2) (h1 : ¬ x.kind = 1) (h2 : x.links = 0 ∧ x.size = 0 ∧ x.blocks.length = 0) (h3 : x.kind = 2 ∨ x.ents.length = 0) : inodeFault x = dirFault x := by
  by_cases hk : x.kind = 2
  · exact inodeFault_d hk h2
  · rw [inodeFault_0 (by omega) h2 (by omega)]
    exact (dirFault_0 (by omega) (fun j hj => by omega)).symm
theorem dirFault_e {x : DInode} (h : x.ents.length = 0) : dirFault x = 0 := dirFault_0 (by omega) (fun j hj => by omega)
def inodesFault (xs : List DInode) : Int := if 10 < xs.length then 2 else firstF inodeFault xs
theorem inodesFault_2 {xs : List DInode} (h : (10 : Int) < (xs.length : Int)) : inodesFault xs = 2 := if_pos (by omega)
theorem inodesFault_s {xs : List DInode} {k : Nat} {x : DInode} (h : ¬ (10 : Int) < (xs.length : Int)) (hx : xs[k]? = some x) (hn : ¬ inodeFault x = 0) (ha : ∀ j y, j < k → xs[j]? = some y → inodeFault y = 0) : inodesFault xs = inodeFault x := by
  unfold inodesFault; rw [if_neg (by omega), firstF_some hx hn ha]
theorem inodesFault_0 {xs : List DInode} (h : ¬ (10 : Int) < (xs.length : Int)) (ha : ∀ j y, j < xs.length → xs[j]? = some y → inodeFault y = 0) : inodesFault xs = 0 := by
  unfold inodesFault; rw [if_neg (by omega), firstF_none (fun j y hy => ha j y (List.getElem?_eq_some_iff.1 hy).1 hy)]
/-! ### what is free, links -/
def freePlace (xs : List DInode) : RInt := if inodesFault xs = 0 then match xs.findIdx? (fun x => decide (x.kind = 0)) with | some i => ⟨0, i⟩ | none => if xs.length = 10 then ⟨8, 0⟩ else ⟨0, xs.length⟩ else ⟨inodesFault xs, 0⟩
theorem inodes_10 {xs : List DInode} (h : inodesFault xs = 0) : xs.length ≤ 10 := by
  unfold inodesFault at h
  split at h
  · exact absurd h (by decide)
  · omega
theorem inodes_all {xs : List DInode} (h : inodesFault xs = 0) : ∀ x, x ∈ xs → inodeFault x = 0 := by
  unfold inodesFault at h
  split at h
  · exact absurd h (by decide)
  · exact firstF_all h
theorem ents_6 {x : DInode} (h : inodeFault x = 0) : x.ents.length ≤ 6 := by
  unfold inodeFault at h
  split at h
  · split at h
    · exact absurd h (by decide)
    · split at h
      · omega
      · split at h
        · unfold dirFault at h
          split at h
          · exact absurd h (by decide)
          · omega
        · omega
  · exact absurd h (by decide)
def cntE (a : Int) (e : DEnt) : Nat := if e.ino = a then 1 else 0
def linksIn (a : Int) (x : DInode) : Nat := sumF (cntE a) x.ents
def linksOf (xs : List DInode) (a : Int) : Nat := sumF (linksIn a) xs
theorem sumF_bnd {α : Type} {f : α → Nat} {B : Nat} : ∀ {xs : List α}, (∀ x, x ∈ xs → f x ≤ B) → sumF f xs ≤ xs.length * B
  | [], _ => Nat.zero_le _
  | x :: xs, h => by
    have h1 := h x List.mem_cons_self
    have h2 := sumF_bnd (xs := xs) (fun y hy => h y (List.mem_cons_of_mem _ hy))
    simp only [sumF, List.length_cons, Nat.succ_mul]
    omega
theorem cntE_1 (a : Int) (e : DEnt) : cntE a e ≤ 1 := by unfold cntE; split <;> omega
theorem links_60 {xs : List DInode} (h : inodesFault xs = 0) (a : Int) : linksOf xs a ≤ 60 := by
  have h1 : linksOf xs a ≤ xs.length * 6 := sumF_bnd fun x hx => by
    have h2 : linksIn a x ≤ x.ents.length * 1 := sumF_bnd fun e _ => cntE_1 a e
    have h3 := ents_6 (inodes_all h x hx)
    omega
  have := inodes_10 h
  omega
def linksR (xs : List DInode) (a : Int) : RInt := if inodesFault xs = 0 then if placeIn xs.length a then ⟨0, linksOf xs a⟩ else ⟨3, 0⟩ else ⟨inodesFault xs, 0⟩
theorem linksR_f {xs : List DInode} {a : Int} (h : ¬ inodesFault xs = 0) : linksR xs a = ⟨inodesFault xs, 0⟩ := if_neg h
theorem linksR_3 {xs : List DInode} {a : Int} (h : inodesFault xs = 0) (h2 : ¬ placeIn xs.length a) : linksR xs a = ⟨3, 0⟩ := by unfold linksR; rw [if_pos h, if_neg h2]
theorem linksR_0 {xs : List DInode} {a : Int} (h : inodesFault xs = 0) (h2 : placeIn xs.length a) : linksR xs a = ⟨0, linksOf xs a⟩ := by unfold linksR; rw [if_pos h, if_pos h2]
theorem freePlace_f {xs : List DInode} (h : ¬ inodesFault xs = 0) : freePlace xs = ⟨inodesFault xs, 0⟩ := if_neg h
def freeAt (xs : List DInode) : Int := match xs.findIdx? (fun x => decide (x.kind = 0)) with | some i => i | none => if xs.length = 10 then -1 else xs.length
theorem freeAt_i {xs : List DInode} {k : Nat} {x : DInode} (hx : xs[k]? = some x) (h : x.kind = 0) (ha : ∀ j y, j < k → xs[j]? = some y → ¬ y.kind = 0) : freeAt xs = (k : Int) := by
  have : xs.findIdx? (fun x => decide (x.kind = 0)) = some k := by
    obtain ⟨hk, rfl⟩ := List.getElem?_eq_some_iff.1 hx
    exact List.findIdx?_eq_some_iff_getElem.2 ⟨hk, decide_eq_true h, fun j hj => by
      have := ha j _ hj (List.getElem?_eq_getElem (by omega))
      simpa using this⟩
  unfold freeAt
  rw [this]
theorem free_none {xs : List DInode} {q : Nat} (hq : xs.length ≤ q) (ha : ∀ j y, j < q → xs[j]? = some y → ¬ y.kind = 0) : xs.findIdx? (fun x => decide (x.kind = 0)) = none := by
  rw [List.findIdx?_eq_none_iff]
  intro y hy
  obtain ⟨j, hj⟩ := List.mem_iff_getElem?.1 hy
  have := ha j y (by have := (List.getElem?_eq_some_iff.1 hj).1; omega) hj
  simpa using this
theorem freeAt_l {xs : List DInode} {q : Nat} (hq : xs.length ≤ q) (ha : ∀ j y, j < q → xs[j]? = some y → ¬ y.kind = 0) (h : (xs.length : Int) < 10) : freeAt xs = (xs.length : Int) := by
  unfold freeAt; rw [free_none hq ha]; simp only; rw [if_neg (by omega)]
theorem freeAt_n {xs : List DInode} {q : Nat} (hq : xs.length ≤ q) (ha : ∀ j y, j < q → xs[j]? = some y → ¬ y.kind = 0) (h : ¬ (xs.length : Int) < 10) (h10 : xs.length ≤ 10) : freeAt xs = -1 := by
  unfold freeAt; rw [free_none hq ha]; simp only; rw [if_pos (by omega)]
theorem freePlace_8 {xs : List DInode} (h : inodesFault xs = 0) (h2 : freeAt xs < 0) : freePlace xs = ⟨8, 0⟩ := by
  unfold freePlace freeAt at *
  rw [if_pos h]
  split at h2
  · omega
  · split at h2
    · rename_i h3 h4; rw [if_pos h4]
    · omega
theorem freePlace_0 {xs : List DInode} (h : inodesFault xs = 0) (h2 : ¬ freeAt xs < 0) : freePlace xs = ⟨0, freeAt xs⟩ := by
  unfold freePlace freeAt at *
  rw [if_pos h]
  split at h2
  · rfl
  · split at h2
    · omega
    · rename_i h3 h4; rw [if_neg h4, if_neg h4]
/-- What impl's inner function tells: the place, the code. -/
theorem free_hit {xs : List DInode} (h : 0 ≤ idxF (fun x => decide (x.kind = 0)) xs) : freeAt xs = idxF (fun x => decide (x.kind = 0)) xs ∧ ¬ freeAt xs < 0 := by
  unfold freeAt idxF at *
  cases hf : xs.findIdx? (fun x => decide (x.kind = 0)) with
  | none => rw [hf] at h; exact absurd h (by decide)
  | some i => simp only; exact ⟨trivial, by omega⟩
theorem free_miss {xs : List DInode} (h : ¬ 0 ≤ idxF (fun x => decide (x.kind = 0)) xs) : freeAt xs = if xs.length = 10 then -1 else (xs.length : Int) := by
  unfold freeAt idxF at *
  cases hf : xs.findIdx? (fun x => decide (x.kind = 0)) with
  | none => rfl
  | some i => rw [hf] at h; simp only at h; omega
end Go.Proofs.Ytkmcpcahbfdohaa
/- What is proved: blocks that are used, free and picked, in plain Lean. No condition. -/
namespace Go.Proofs.Ytkmcpcahbfdohaa
open Go Go.RowKit
set_option linter.unusedVariables false
set_option linter.unusedSimpArgs false
def usedL (xs : List DInode) : List Int := (xs.map (·.blocks)).flatten
def sortI (l : List Int) : List Int := l.mergeSort (fun x y => decide (x ≤ y))
theorem sortI_perm (l : List Int) : (sortI l).Perm l := List.mergeSort_perm ..
theorem sortI_len (l : List Int) : (sortI l).length = l.length := (sortI_perm l).length_eq
theorem sortI_mem {l : List Int} {a : Int} : a ∈ sortI l ↔ a ∈ l := (sortI_perm l).mem_iff
theorem sortI_sorted (l : List Int) : (sortI l).Pairwise (· ≤ ·) := by
  have := List.pairwise_mergeSort (le := fun (x y : Int) => decide (x ≤ y)) (fun a b c h k => by simp at *; omega) (fun a b => by simp; omega) l
  exact this.imp (fun h => by simpa using h)
theorem usedL_take {xs : List DInode} {k : Nat} {x : DInode} (h : xs[k]? = some x) : usedL (xs.take k) ++ x.blocks = usedL (xs.take (k + 1)) := by
  unfold usedL
  rw [← take_snoc h]
  simp
/-- No two neighbours are equal: in a sorted list, no two at all. -/
theorem compact_len (zs : List Int) : (Lib.compact zs).length ≤ zs.length := by
  unfold Lib.compact Lib.compactUpTo
  rw [List.length_map]
  exact Nat.le_trans (List.length_filter_le _ _) (by simp)
theorem compact_nodup {zs : List Int} (h : zs.Nodup) : (Lib.compact zs).length = zs.length := by
  rw [Lib.compact_all zs]
  intro j hj
  by_cases h0 : j = 0
  · simp [Lib.keeps, h0]
  · refine Lib.keeps_pos ?_
    rw [getElem!_pos zs.toArray j (by simpa using hj), getElem!_pos zs.toArray (j - 1) (by simp; omega)]
    intro e
    have := List.pairwise_iff_getElem.1 (List.nodup_iff_pairwise_ne.1 h) (j - 1) j (by omega) hj (by omega)
    exact this (by simpa using e.symm)
theorem compact_dup {zs : List Int} (hs : zs.Pairwise (· ≤ ·)) (h : ¬ zs.Nodup) : (Lib.compact zs).length < zs.length := by
  -- a place whose left neighbour holds the same
  have hex : ∃ j, 0 < j ∧ ∃ h1 : j < zs.length, zs[j] = zs[j - 1] := by
    apply Classical.byContradiction
    intro hno
    apply h
    have hlt : ∀ (d i : Nat) (h1 : i + d + 1 < zs.length), zs[i] < zs[i + d + 1] := by
      intro d
      induction d with
      | zero =>
        intro i h1
        have h2 : zs[i] ≤ zs[i + 1] := List.pairwise_iff_getElem.1 hs i (i + 1) (by omega) h1 (by omega)
        have h3 : zs[i + 1] ≠ zs[i] := fun e => hno ⟨i + 1, by omega, h1, by simpa using e⟩
        simp only [Nat.add_zero]
        omega
      | succ d ih =>
        intro i h1
        have h2 := ih i (by omega)
        have h4 : zs[i + d + 1] ≤ zs[i + d + 1 + 1] := List.pairwise_iff_getElem.1 hs (i + d + 1) (i + d + 1 + 1) (by omega) (by omega) (by omega)
        have e : i + (d + 1) + 1 = i + d + 1 + 1 := by omega
        simp only [e]
        omega
    rw [List.nodup_iff_pairwise_ne, List.pairwise_iff_getElem]
    intro i j hi hj hij
    have := hlt (j - i - 1) i (by omega)
    have e : i + (j - i - 1) + 1 = j := by omega
    simp only [e] at this
    omega
  obtain ⟨j, hj0, hj, he⟩ := hex
  have hk : Lib.keeps zs.toArray j = false := by
    refine Lib.keeps_neg hj0 ?_
    rw [getElem!_pos zs.toArray j (by simpa using hj), getElem!_pos zs.toArray (j - 1) (by simp; omega)]
    simpa using he
  unfold Lib.compact Lib.compactUpTo
  rw [List.length_map]
  have := List.length_filter_lt_length_iff_exists (l := List.range zs.length) (p := Lib.keeps zs.toArray)
  rw [List.length_range] at this
  exact this.2 ⟨j, List.mem_range.2 hj, by rw [hk]; exact Bool.false_ne_true⟩
theorem compact_iff (l : List Int) : ((Lib.compact (sortI l)).length = (sortI l).length) ↔ l.Nodup := by
  constructor
  · intro h
    apply Classical.byContradiction
    intro hn
    have := compact_dup (sortI_sorted l) (fun h2 => hn ((sortI_perm l).nodup_iff.1 h2))
    omega
  · intro h
    exact compact_nodup ((sortI_perm l).nodup_iff.2 h)
/-! ### how often -/
def oneB (a b : Int) : Nat := if b = a then 1 else 0
def cntB (a : Int) (x : DInode) : Nat := sumF (oneB a) x.blocks
def countB (xs : List DInode) (a : Int) : Nat := sumF (cntB a) xs
theorem sumF_app {α : Type} (f : α → Nat) : ∀ xs ys : List α, sumF f (xs ++ ys) = sumF f xs + sumF f ys
  | [], ys => by simp [sumF]
  | x :: xs, ys => by simp only [List.cons_append, sumF, sumF_app f xs ys]; omega
theorem sum_count (a : Int) : ∀ l : List Int, sumF (oneB a) l = l.count a
  | [] => rfl
  | b :: l => by
    simp only [sumF, sum_count a l, List.count_cons, oneB, beq_iff_eq]
    omega
theorem countB_eq (a : Int) : ∀ xs : List DInode, countB xs a = (usedL xs).count a
  | [] => rfl
  | x :: xs => by
    have ih := countB_eq a xs
    unfold countB usedL at ih ⊢
    simp only [sumF, List.map_cons, List.flatten_cons, List.count_append, ← ih, cntB, sum_count]
theorem blocks_4 {x : DInode} (h : inodeFault x = 0) : x.blocks.length ≤ 4 ∧ ∀ b, b ∈ x.blocks → 0 ≤ b ∧ b ≤ 19 := by
  unfold inodeFault at h
  split at h
  · split at h
    · exact absurd h (by decide)
    · rename_i h1 h2
      split at h
      · unfold fileFault at h
        split at h
        · split at h
          · split at h
            · exact absurd h (by decide)
            · rename_i h3 h4 h5
              refine ⟨by omega, fun b hb => ?_⟩
              simp only [List.any_eq_true, not_exists, not_and] at h5
              have := h5 b hb
              simpa using this
          · exact absurd h (by decide)
        · exact absurd h (by decide)
      · have h0 : x.blocks.length = 0 := by omega
        exact ⟨by omega, fun b hb => by rw [List.length_eq_zero_iff.1 h0] at hb; cases hb⟩
  · exact absurd h (by decide)
theorem usedL_mem {xs : List DInode} (h : inodesFault xs = 0) {b : Int} (hb : b ∈ usedL xs) : 0 ≤ b ∧ b ≤ 19 := by
  unfold usedL at hb
  obtain ⟨l, hl, hb⟩ := List.mem_flatten.1 hb
  obtain ⟨x, hx, rfl⟩ := List.mem_map.1 hl
  exact (blocks_4 (inodes_all h x hx)).2 b hb
theorem usedL_len {xs : List DInode} (h : ∀ x, x ∈ xs → inodeFault x = 0) : (usedL xs).length ≤ xs.length * 4 := by
  induction xs with
  | nil => simp [usedL]
  | cons x xs ih =>
    have h1 := (blocks_4 (h x List.mem_cons_self)).1
    have h2 := ih (fun y hy => h y (List.mem_cons_of_mem _ hy))
    unfold usedL at h2 ⊢
    simp only [List.map_cons, List.flatten_cons, List.length_append, List.length_cons]
    omega
theorem usedL_40 {xs : List DInode} (h : inodesFault xs = 0) (k : Nat) : (usedL (xs.take k)).length ≤ 40 := by
  have h1 := usedL_len (xs := xs.take k) (fun x hx => inodes_all h x (List.mem_of_mem_take hx))
  have h2 := inodes_10 h
  rw [List.length_take] at h1
  omega
theorem count_40 {xs : List DInode} (h : inodesFault xs = 0) (a : Int) : countB xs a ≤ 40 := by
  rw [countB_eq]
  have := usedL_40 h xs.length
  rw [List.take_length] at this
  exact Nat.le_trans List.count_le_length this
/-! ### the places 0 .. k - 1 that are so -/
def placesTo (p : Int → Bool) (k : Nat) : List Int := ((List.range k).map (fun i : Nat => (i : Int))).filter p
theorem placesTo_on {p : Int → Bool} {k : Nat} (h : p (k : Int) = true) : placesTo p k ++ [(k : Int)] = placesTo p (k + 1) := by
  unfold placesTo
  rw [List.range_succ]
  simp [h]
theorem placesTo_off {p : Int → Bool} {k : Nat} (h : p (k : Int) = false) : placesTo p k = placesTo p (k + 1) := by
  unfold placesTo
  rw [List.range_succ]
  simp [h]
theorem placesTo_len {p : Int → Bool} {k : Nat} : (placesTo p k).length ≤ k := by
  unfold placesTo
  exact Nat.le_trans (List.length_filter_le _ _) (by simp)
theorem placesTo_mem {p : Int → Bool} {k : Nat} {a : Int} : a ∈ placesTo p k ↔ (0 ≤ a ∧ a < k) ∧ p a = true := by
  unfold placesTo
  rw [List.mem_filter, List.mem_map]
  constructor
  · rintro ⟨⟨i, hi, rfl⟩, hp⟩
    have := List.mem_range.1 hi
    exact ⟨⟨by omega, by omega⟩, hp⟩
  · rintro ⟨⟨h1, h2⟩, hp⟩
    exact ⟨⟨a.toNat, List.mem_range.2 (by omega), by omega⟩, hp⟩
theorem placesTo_lt {p : Int → Bool} {k : Nat} : (placesTo p k).Pairwise (· < ·) := by
  unfold placesTo
  refine List.Pairwise.filter _ ?_
  rw [List.pairwise_map]
  exact List.pairwise_lt_range.imp (fun h => by omega)
theorem placesTo_congr {p q : Int → Bool} {k : Nat} (h : ∀ a : Int, 0 ≤ a → a < k → p a = q a) : placesTo p k = placesTo q k := by
  unfold placesTo
  refine List.filter_congr fun a ha => ?_
  obtain ⟨i, hi, rfl⟩ := List.mem_map.1 ha
  have := List.mem_range.1 hi
  exact h _ (by omega) (by omega)
def onceTo (xs : List DInode) (k : Nat) : Prop := ∀ j, j < k → countB xs (j : Int) ≤ 1
instance (xs : List DInode) (k : Nat) : Decidable (onceTo xs k) := by unfold onceTo; infer_instance
theorem onceTo_s {xs : List DInode} {k : Nat} : onceTo xs (k + 1) ↔ onceTo xs k ∧ countB xs (k : Int) ≤ 1 := by
  unfold onceTo
  constructor
  · intro h
    exact ⟨fun j hj => h j (by omega), h k (by omega)⟩
  · rintro ⟨h1, h2⟩ j hj
    by_cases hk : j = k
    · subst hk; exact h2
    · exact h1 j (by omega)
theorem onceTo_20 {xs : List DInode} (h : inodesFault xs = 0) : onceTo xs 20 ↔ (usedL xs).Nodup := by
  rw [List.nodup_iff_count]
  constructor
  · intro ho a
    by_cases ha : a ∈ usedL xs
    · have hb := usedL_mem h ha
      have := ho a.toNat (by omega)
      rw [show ((a.toNat : Nat) : Int) = a by omega, countB_eq] at this
      exact this
    · rw [List.count_eq_zero_of_not_mem ha]; omega
  · intro hn j _
    rw [countB_eq]
    exact hn _
abbrev usedP (xs : List DInode) : Int → Bool := fun a => decide (0 < countB xs a)
theorem used_sorted {xs : List DInode} (h : inodesFault xs = 0) (hn : (usedL xs).Nodup) : placesTo (usedP xs) 20 = sortI (usedL xs) := by
  refine List.Perm.eq_of_pairwise (le := (· ≤ ·)) (fun a b _ _ h1 h2 => Int.le_antisymm h1 h2) (placesTo_lt.imp (fun h => Int.le_of_lt h)) (sortI_sorted _) ?_
  refine (List.perm_ext_iff_of_nodup (placesTo_lt.imp (fun h => Int.ne_of_lt h)) ((sortI_perm _).nodup_iff.2 hn)).2 fun a => ?_
  rw [placesTo_mem, sortI_mem, decide_eq_true_iff, countB_eq, List.count_pos_iff]
  exact ⟨fun h => h.2, fun ha => ⟨by have := usedL_mem h ha; omega, ha⟩⟩
def usedR (xs : List DInode) : RInts := if inodesFault xs = 0 then if (usedL xs).Nodup then ⟨0, sortI (usedL xs)⟩ else ⟨7, []⟩ else ⟨inodesFault xs, []⟩
theorem usedR_f {xs : List DInode} (h : ¬ inodesFault xs = 0) : usedR xs = ⟨inodesFault xs, []⟩ := if_neg h
theorem usedR_7 {xs : List DInode} (h : inodesFault xs = 0) (h2 : ¬ (usedL xs).Nodup) : usedR xs = ⟨7, []⟩ := by unfold usedR; rw [if_pos h, if_neg h2]
theorem usedR_0 {xs : List DInode} (h : inodesFault xs = 0) (h2 : (usedL xs).Nodup) : usedR xs = ⟨0, sortI (usedL xs)⟩ := by unfold usedR; rw [if_pos h, if_pos h2]
theorem usedR_s {xs : List DInode} (h : inodesFault xs = 0) (h2 : (usedL xs).Nodup) : usedR xs = ⟨0, placesTo (usedP xs) 20⟩ := by rw [usedR_0 h h2, used_sorted h h2]
abbrev freeP (xs : List DInode) (busy : List Int) : Int → Bool := fun b => decide (¬ b ∈ usedL xs ∧ ¬ b ∈ busy)
theorem count_0 {xs : List DInode} {a : Int} : (countB xs a : Int) = 0 ↔ ¬ a ∈ usedL xs := by
  rw [countB_eq]
  constructor
  · intro h ha
    have := List.count_pos_iff.2 ha
    omega
  · intro h
    rw [List.count_eq_zero_of_not_mem h]
    rfl
def freeTo (xs : List DInode) (busy : List Int) : List Int := placesTo (freeP xs busy) 20
def askFault (xs : List DInode) (busy : List Int) : Int := if inodesFault xs = 0 then busyFault busy else inodesFault xs
theorem ask_ok {xs : List DInode} {busy : List Int} (h : askFault xs busy = 0) : inodesFault xs = 0 := by
  unfold askFault at h
  split at h
  · assumption
  · exact h
def freeR (xs : List DInode) (busy : List Int) : RInts := if askFault xs busy = 0 then ⟨0, freeTo xs busy⟩ else ⟨askFault xs busy, []⟩
theorem freeR_f {xs : List DInode} {busy : List Int} (h : ¬ askFault xs busy = 0) : freeR xs busy = ⟨askFault xs busy, []⟩ := if_neg h
theorem freeR_0 {xs : List DInode} {busy : List Int} (h : askFault xs busy = 0) : freeR xs busy = ⟨0, freeTo xs busy⟩ := if_pos h
def pickOf (xs : List DInode) (busy : List Int) (n : Int) : RInts := if 0 ≤ n ∧ n ≤ 4 then if ((freeTo xs busy).length : Int) < n then ⟨8, []⟩ else ⟨0, (freeTo xs busy).take n.toNat⟩ else ⟨3, []⟩
theorem pickOf_3 {xs : List DInode} {busy : List Int} {n : Int} (h : ¬ (0 ≤ n ∧ n ≤ 4)) : pickOf xs busy n = ⟨3, []⟩ := if_neg h
theorem pickOf_8 {xs : List DInode} {busy : List Int} {n : Int} (h : 0 ≤ n ∧ n ≤ 4) (h2 : ((freeTo xs busy).length : Int) < n) : pickOf xs busy n = ⟨8, []⟩ := by unfold pickOf; rw [if_pos h, if_pos h2]
theorem pickOf_0 {xs : List DInode} {busy : List Int} {n : Int} (h : 0 ≤ n ∧ n ≤ 4) (h2 : ¬ ((freeTo xs busy).length : Int) < n) : pickOf xs busy n = ⟨0, (freeTo xs busy).take n.toNat⟩ := by unfold pickOf; rw [if_pos h, if_neg h2]
def pickR (xs : List DInode) (busy : List Int) (n : Int) : RInts := if askFault xs busy = 0 then pickOf xs busy n else ⟨askFault xs busy, []⟩
theorem pickR_f {xs : List DInode} {busy : List Int} {n : Int} (h : ¬ askFault xs busy = 0) : pickR xs busy n = ⟨askFault xs busy, []⟩ := if_neg h
theorem pickR_0 {xs : List DInode} {busy : List Int} {n : Int} (h : askFault xs busy = 0) : pickR xs busy n = pickOf xs busy n := if_pos h
end Go.Proofs.Ytkmcpcahbfdohaa
/- What is proved: the library's contracts of Sort and Compact over rows of numbers, told of one's own slice. No condition. -/
namespace Go.Proofs.Ytkmcpcahbfdohaa
open Go Go.RowKit
open Go.Sort (putRow grow putCells mapBlock)
set_option linter.unusedVariables false
set_option linter.unusedSimpArgs false
theorem kint_cells {k : IntKind} {w : World} {S : Bs} : ∀ {zs : List Int} {css : List (List Value)}, css.length = zs.length → Star (seqA (kint k) zs css) w S → css = zs.map (fun z => [Value.int k z])
  | [], [], _, _ => rfl
  | z :: zs, c :: css, hl, h => by
    have h1 : (kint k).own w S z c := h.head (c := ownA (kint k) z c)
    rw [kint_cells (by simpa using hl) (h.drop (c := ownA (kint k) z c)), List.map_cons, h1.1]
  | [], _ :: _, hl, _ => by simp at hl
  | _ :: _, [], hl, _ => by simp at hl
theorem kint_seq {k : IntKind} {w : World} {S : Bs} : ∀ zs : List Int, Star (seqA (kint k) zs (zs.map (fun z => [Value.int k z]))) w S
  | [] => trivial
  | z :: zs => ⟨fun _ => False, S, ⟨rfl, trivial⟩, kint_seq zs, fun _ h => h.elim, fun _ h => h, fun _ h => h.elim⟩
theorem flat1 {k : IntKind} (zs : List Int) : (zs.map (fun z => [Value.int k z])).flatten = zs.map (Value.int k) := by
  induction zs with
  | nil => rfl
  | cons z zs ih => simp [ih]
/-- A row of numbers of one's own: its block, as the library's contracts ask. -/
theorem own_holds {e by_ : Nat} {w : World} {S : Bs} {zs : List Int} {v : Value} (h : (kslice e by_ (kint .i64)).own w S zs [v]) (hp : 0 < zs.length) :
    ∃ g c, v = .slice (some ⟨g, 0, none⟩) zs.length c ∧ zs.length ≤ c ∧ g < w.heap.size ∧ Go.Sort.Holds (Value.int .i64) w g 0 zs.toArray ∧ zs.length * by_ ≤ 140737488355328 ∧ c ≤ 9223372036854775807 ∧
      ∀ (zs' : List Int) (n : Nat) (os : Array Obj), zs'.length = zs.length → (kslice e by_ (kint .i64)).own (grow (putRow (Value.int .i64) (Sort.ahead w n) g 0 zs'.toArray) os) S zs' [v] ∧ Fr w S (grow (putRow (Value.int .i64) (Sort.ahead w n) g 0 zs'.toArray) os) := by
  rcases h with ⟨A, h1, rfl⟩ | ⟨g, c, css, h1, h2, h3, h4, h5, h6⟩
  · exact absurd hp (by simp)
  obtain rfl : v = .slice (some ⟨g, 0, none⟩) zs.length c := by simpa using h1
  obtain ⟨S1, S2, ⟨hg, cur, k1, k2, k3, k4⟩, hseq, a1, a2, a3⟩ := h6
  have hcss := kint_cells h5 hseq
  subst hcss
  rw [flat1] at k3 k4
  simp only [List.length_map] at k3 k4
  have hlt : g < w.heap.size := (Array.getElem?_eq_some_iff.1 k1).1
  have hcell : ∀ j, j < zs.length → cur[j]? = some (.int .i64 (zs[j]!)) := fun j hj => by
    have : (cur.toList.take zs.length)[j]? = (zs.map (Value.int .i64))[j]? := by rw [k4]
    rw [List.getElem?_take, if_pos hj, List.getElem?_map, List.getElem?_eq_getElem hj] at this
    rw [Array.getElem?_toList] at this
    rw [this, getElem!_pos zs j hj]
    rfl
  refine ⟨g, c, rfl, h2, hlt, fun j hj => ⟨?_, ?_⟩, h4, h3, fun zs' n os hl => ?_⟩
  · have hj' : j < zs.length := by simpa using hj
    rw [cell_of_row w g (0 + j) cur e (0, 0) k1, Nat.zero_add, hcell j hj']
    simp [getElem!_pos zs j hj', getElem!_pos zs.toArray j hj]
  · simp [World.frozen?, k1]
  · have hb : (grow (putRow (Value.int .i64) (Sort.ahead w n) g 0 zs'.toArray) os).heap[g]? = some (.cells (putCells (Value.int .i64) 0 zs'.toArray cur) e (0, 0)) := by
      simp only [grow, putRow, mapBlock, Sort.ahead]
      rw [Array.getElem?_append_left (by simpa using hlt), Array.getElem?_modify, if_pos rfl, k1]
      rfl
    have ho : ∀ b, b < w.heap.size → b ≠ g → (grow (putRow (Value.int .i64) (Sort.ahead w n) g 0 zs'.toArray) os).heap[b]? = w.heap[b]? := fun b hb hne => by
      simp only [grow, putRow, mapBlock, Sort.ahead]
      rw [Array.getElem?_append_left (by simpa using hb), Array.getElem?_modify, if_neg (fun e => hne e.symm)]
    have hsz : w.heap.size ≤ (grow (putRow (Value.int .i64) (Sort.ahead w n) g 0 zs'.toArray) os).heap.size := by simp [grow, putRow, mapBlock, Sort.ahead]
    have hfr : Fr w S (grow (putRow (Value.int .i64) (Sort.ahead w n) g 0 zs'.toArray) os) := ⟨rfl, rfl, rfl, hsz, fun b hb hn => ho b hb (fun e => hn (e ▸ a1 g hg))⟩
    refine ⟨.inr ⟨g, c, zs'.map (fun z => [Value.int .i64 z]), by rw [hl], by omega, h3, by rw [hl]; exact h4, by simp, ?_⟩, hfr⟩
    refine ⟨S1, fun _ => False, ⟨hg, _, hb, ?_, ?_, ?_⟩, kint_seq zs', a1, fun _ h => h.elim, fun _ _ h => h⟩
    · simpa [putCells] using k2
    · rw [flat1]
      simp only [putCells, Array.size_mapIdx, List.length_map]
      omega
    · rw [flat1]
      apply List.ext_getElem?
      intro j
      rw [List.getElem?_take, List.length_map]
      split
      · rename_i hj
        have hjc : j < cur.size := by omega
        rw [Array.getElem?_toList, putCells, Array.getElem?_mapIdx, Array.getElem?_eq_getElem hjc, Option.map_some, if_pos ⟨by omega, by simpa using hj⟩, List.getElem?_map, List.getElem?_eq_getElem hj, Option.map_some]
        simp [getElem!_pos zs'.toArray j (by simpa using hj)]
      · rw [List.getElem?_eq_none (by rw [List.length_map]; omega)]
theorem own_zero {e by_ : Nat} {w : World} {S : Bs} {zs : List Int} {v : Value} (h : (kslice e by_ (kint .i64)).own w S zs [v]) (hp : ¬ 0 < zs.length) : zs = [] ∧ ∃ A c, v = .slice A 0 c := by
  have h0 : zs = [] := List.length_eq_zero_iff.1 (by omega)
  subst h0
  obtain ⟨A, c, h1, _⟩ := own_form h
  exact ⟨rfl, A, c, by simpa using h1⟩
/-- Sorting. -/
theorem sort_con {P : Program} {f : FuncId} {e by_ : Nat} {w0 : World} {S0 : Bs} {zs : List Int} {v0 : Value}
    (h1 : ∀ (blk off cap : Nat) (zs : List Int) (w : World), Go.Sort.Holds (Value.int .i64) w blk off zs.toArray → blk < w.heap.size → zs.length < 4611686018427387904 → Calls P f #[.slice (some ⟨blk, off, none⟩) zs.length cap] w fun e w' => e = .returned (.tuple #[]) ∧ ∃ n os, w' = grow (putRow (Value.int .i64) (Sort.ahead w n) blk off (zs.mergeSort fun x y => decide (x ≤ y)).toArray) os)
    (h2 : ∀ (p : Option Addr) (cap : Nat) (w : World), Calls P f #[.slice p 0 cap] w fun e w' => e = .returned (.tuple #[]) ∧ w' = w) (h8 : 8 ≤ by_)
    (hs : Star [ownA (kslice e by_ (kint .i64)) zs [v0]] w0 S0) : Calls P f #[v0] w0 (TriPost w0 S0 (fun r l => r = .tuple #[] ∧ l = [ownA (kslice e by_ (kint .i64)) (sortI zs) [v0]])) := by
  have ho : (kslice e by_ (kint .i64)).own w0 S0 zs [v0] := hs.head (c := ownA (kslice e by_ (kint .i64)) zs [v0])
  by_cases hp : 0 < zs.length
  · obtain ⟨g, c, rfl, g1, g2, g3, g4, g5, g6⟩ := own_holds ho hp
    have hb : zs.length * 8 ≤ zs.length * by_ := Nat.mul_le_mul_left _ h8
    refine (h1 g 0 c zs w0 g3 g2 (by omega)).mono fun e' w' ⟨he, n, os, hw⟩ => ?_
    obtain ⟨k1, k2⟩ := g6 (sortI zs) n os (sortI_len zs)
    have hw' : w' = grow (putRow (Value.int .i64) (Sort.ahead w0 n) g 0 (sortI zs).toArray) os := hw
    subst hw'
    exact ⟨_, _, he, ⟨rfl, rfl⟩, S0, Star.one (c := ownA (kslice e by_ (kint .i64)) (sortI zs) _) k1, fun b hb => .inl hb, k2⟩
  · obtain ⟨rfl, A, c, rfl⟩ := own_zero ho hp
    refine (h2 A c w0).mono fun e' w' ⟨he, hw⟩ => ?_
    subst hw
    have e0 : sortI [] = [] := by simp [sortI]
    exact ⟨_, _, he, ⟨rfl, rfl⟩, S0, by rw [e0]; exact hs, fun b hb => .inl hb, Fr.refl _ _⟩
theorem grow_nil (w : World) : grow w #[] = w := by cases w; simp [grow]
/-- Compact: how many stay. -/
theorem compact_con {P : Program} {f : FuncId} {e by_ : Nat} {w0 : World} {S0 : Bs} {zs : List Int} {v0 : Value}
    (h1 : ∀ (blk off cap : Nat) (zs : List Int) (w : World), Go.Sort.Holds (Value.int .i64) w blk off zs.toArray → zs.length ≤ 9223372036854775807 → zs.length ≤ cap → Calls P f #[.slice (some ⟨blk, off, none⟩) zs.length cap] w fun e w' => e = .returned (.slice (some ⟨blk, off, none⟩) (Lib.compact zs).length cap) ∧ ∃ q, w' = putRow (Value.int .i64) (Sort.ahead w q) blk off (Lib.compact zs ++ List.replicate (zs.length - (Lib.compact zs).length) 0).toArray)
    (h2 : ∀ (a : Option Addr) (cap : Nat) (w : World), Calls P f #[.slice a 0 cap] w fun e w' => e = .returned (.slice a 0 cap) ∧ w' = w)
    (hs : Star [ownA (kslice e by_ (kint .i64)) zs [v0]] w0 S0) : Calls P f #[v0] w0 (TriPost w0 S0 (fun r l => ∃ z : Option Addr × Nat, r = .slice z.1 (Lib.compact zs).length z.2 ∧ l = [])) := by
  have ho : (kslice e by_ (kint .i64)).own w0 S0 zs [v0] := hs.head (c := ownA (kslice e by_ (kint .i64)) zs [v0])
  by_cases hp : 0 < zs.length
  · obtain ⟨g, c, rfl, g1, g2, g3, g4, g5, g6⟩ := own_holds ho hp
    refine (h1 g 0 c zs w0 g3 (by omega) g1).mono fun e' w' ⟨he, q, hw⟩ => ?_
    obtain ⟨k1, k2⟩ := g6 (Lib.compact zs ++ List.replicate (zs.length - (Lib.compact zs).length) 0) q #[] (by have := compact_len zs; simp; omega)
    have hw' : w' = grow (putRow (Value.int .i64) (Sort.ahead w0 q) g 0 (Lib.compact zs ++ List.replicate (zs.length - (Lib.compact zs).length) 0).toArray) #[] := by rw [hw, grow_nil]
    subst hw'
    exact ⟨_, _, he, ⟨(_, _), rfl, rfl⟩, S0, trivial, fun b hb => .inl hb, k2⟩
  · obtain ⟨rfl, A, c, rfl⟩ := own_zero ho hp
    refine (h2 A c w0).mono fun e' w' ⟨he, hw⟩ => ?_
    subst hw
    have e0 : (Lib.compact ([] : List Int)).length = 0 := rfl
    exact ⟨_, _, he, ⟨(A, c), by rw [e0], rfl⟩, S0, trivial, fun b hb => .inl hb, Fr.refl _ _⟩
theorem FJ.chEq {N : Nat} {w0 : World} {S0 : Bs} {F : Act → World → Prop} {T : Slots} {l l' : List Asn} {c c' : Asn} (h : Take l c l') (e : c = c') (k : FJ N w0 S0 F T (c' :: l')) : FJ N w0 S0 F T l := by subst e; exact FJ.take h k
/-! ### the head of a slice of one's own -/
theorem own_take {α : Type} {K : Kd α} {e by_ n c : Nat} {xs : List α} {A : Option Addr} (hn : n ≤ xs.length) (w : World) (S : Bs) (h : Star [ownA (kslice e by_ K) xs [.slice A xs.length c]] w S) : (ownA (kslice e by_ K) (xs.take n) [.slice A n c]).p w S := by
  have hl : (xs.take n).length = n := by rw [List.length_take]; omega
  rcases (show (kslice e by_ K).own w S xs [.slice A xs.length c] from h.head (c := ownA (kslice e by_ K) xs _)) with ⟨A', h1, rfl⟩ | ⟨g, c', css, h1, h2, h3, h4, h5, h6⟩
  · obtain rfl : n = 0 := by simpa using hn
    injection h1 with h1 _
    injection h1 with h1 h2 h3
    subst h3
    exact .inl ⟨A, rfl, rfl⟩
  · injection h1 with h1 _
    injection h1 with h1 _ h3'
    subst h1; subst h3'
    obtain ⟨S1, S2, ⟨hg, cur, k1, k2, k3, k4⟩, hseq, a1, a2, a3⟩ := h6
    have hlc := seq_len h5 hseq
    have hft := flatten_take hlc n
    refine .inr ⟨g, c, css.take n, by rw [hl], by omega, h3, ?_, by rw [List.length_take, List.length_take, h5], ?_⟩
    · rw [hl]; exact Nat.le_trans (Nat.mul_le_mul_right _ hn) h4
    · refine ⟨S1, S2, ⟨hg, cur, k1, k2, ?_, ?_⟩, ?_, a1, a2, a3⟩
      · rw [hft, List.length_take]; omega
      · rw [hft, List.length_take]
        have : cur.toList.take (min (n * K.sz) css.flatten.length) = (cur.toList.take css.flatten.length).take (n * K.sz) := by rw [List.take_take]
        rw [this, k4]
      · have : seqA K (xs.take n) (css.take n) = (seqA K xs css).take n := by simp [seqA, List.take_zipWith]
        rw [this]
        exact Star.sublist (List.take_sublist _ _) hseq
theorem own_take' {α : Type} {K : Kd α} {e by_ n c : Nat} {xs : List α} {A : Option Addr} (hn : n ≤ xs.length) (w : World) (S : Bs) (h : Star [ownA (kslice e by_ K) xs [.slice A xs.length c]] w S) : (ownA (kslice e by_ K) (xs.take n) [.slice A (xs.take n).length c]).p w S := by
  have := own_take hn w S h
  rwa [show (xs.take n).length = n by rw [List.length_take]; omega]
theorem WS.ocap {w0 : World} {S0 : Bs} {l l' : List Asn} {α : Type} {K : Kd α} {e by_ : Nat} {xs : List α} {A : Option Addr} {n c : Nat} (ht : Take l (ownA (kslice e by_ K) xs [.slice A n c]) l') : ∀ w, WS w0 S0 l w → n = xs.length ∧ n ≤ c ∧ c ≤ 9223372036854775807 ∧ n * by_ ≤ 140737488355328 := fun w hw => by
  obtain ⟨A', c', h, h1, h2, h3⟩ := WS.oform ht w hw
  injection h with _ h4 h5
  subst h4; subst h5
  exact ⟨rfl, h1, h2, h3⟩
section
variable {P : Program} {T : Slots} {Wd : World → Prop} {o : Oper}
theorem q_sliceTake {x : Operand} {t e : TypeId} {sz b n c : Nat} {z : Operand} {k : IntKind} {A : Option Addr} (ho : o.op = .slice t x none (some z) none) (ht : P.underlying t = some (.slice e)) (he : (P.info? e).map (·.size) = some sz) (hx : Val T x (.slice A n c)) (hz : Val T z (.int k (b : Int))) (h : b ≤ c) : Quiet P o T Wd (.slice A b c) := by
  have := q_slice (a := 0) (b := b) (Wd := Wd) ho ht he hx (.inl ⟨rfl, rfl⟩) (.inr ⟨_, _, rfl, hz⟩) (by omega) h
  have e1 : (if c = 0 then A else A.map (·.add (0 * sz))) = A := by
    split
    · rfl
    · cases A with
      | none => rfl
      | some a => simp [Addr.add]
  rw [e1] at this
  simpa using this
end
end Go.Proofs.Ytkmcpcahbfdohaa
/- What is proved: three that act are ready in a region that draws: any may be the next. No condition. -/
namespace Go.Proofs.Ytkmcpcahbfdohaa
open Go Go.RowKit
section
variable {N : Nat} {w0 : World} {S0 : Bs} {F : Act → World → Prop} {T : Slots} {l lk : List Asn} {P : Program} {Q : Exit → Act → World → Prop} {K : Act → World → Prop} {ops : Array Oper} {last : Nat}
theorem FJ.fork3 {md : Region.Mode} {m : Nat} {listed : Array Bool} {i j k : Nat} (hr : (Region.ready md ops listed == [i, j, k]) = true)
    (hi : FJ N w0 S0 (wpSch P ops (NoPanic Q) (WS w0 S0 lk) last (wpL P md ops (NoPanic Q) (WS w0 S0 lk) last m (listed.setIfInBounds i true)) [(i, false)]) T l)
    (hj : FJ N w0 S0 (wpSch P ops (NoPanic Q) (WS w0 S0 lk) last (wpL P md ops (NoPanic Q) (WS w0 S0 lk) last m (listed.setIfInBounds j true)) [(j, false)]) T l)
    (hk : FJ N w0 S0 (wpSch P ops (NoPanic Q) (WS w0 S0 lk) last (wpL P md ops (NoPanic Q) (WS w0 S0 lk) last m (listed.setIfInBounds k true)) [(k, false)]) T l) :
    FJ N w0 S0 (wpL P md ops (NoPanic Q) (WS w0 S0 lk) last (m + 1) listed) T l := fun a w h1 h2 h3 h4 => by
  have e := eq_of_beq hr
  refine ⟨fun h0 => (by rw [e] at h0; cases h0), fun z hz => ?_⟩
  rw [e] at hz
  rcases List.mem_cons.1 hz with rfl | hz
  · exact hi a w h1 h2 h3 h4
  · rcases List.mem_cons.1 hz with rfl | hz
    · exact hj a w h1 h2 h3 h4
    · obtain rfl := List.mem_singleton.1 hz
      exact hk a w h1 h2 h3 h4
end
end Go.Proofs.Ytkmcpcahbfdohaa
/- What is proved: the words last put at a place, in plain Lean. No condition. -/
namespace Go.Proofs.Ytkmcpcahbfdohaa
open Go
set_option linter.unusedVariables false
set_option linter.unusedSimpArgs false
def blockL (d : DDisk) (a : Int) : List Int := ((d.cache.reverse.find? fun p => p.at_ == a).map (·.words)).getD (d.blocks.getD a.toNat [])
theorem find_at {α : Type} {p : α → Bool} : ∀ {l : List α} {k : Nat} {y : α}, (∀ j z, j < k → l[j]? = some z → p z = false) → l[k]? = some y → p y = true → l.find? p = some y
  | [], _, _, _, h, _ => by simp at h
  | x :: l, 0, y, _, h, hy => by
    simp at h; subst h
    simp [List.find?, hy]
  | x :: l, k + 1, y, ha, h, hy => by
    have h0 : p x = false := ha 0 x (by omega) (by simp)
    simp only [List.find?, h0]
    exact find_at (l := l) (k := k) (fun j z hj hz => ha (j + 1) z (Nat.succ_lt_succ hj) (by simpa using hz)) (by simpa using h) hy
theorem choice_list {α β : Type} : ∀ (xs : List α) {P : Nat → α → β → Prop}, (∀ j x, xs[j]? = some x → ∃ y, P j x y) → ∃ ys : List β, ys.length = xs.length ∧ ∀ j x, xs[j]? = some x → ∃ y, ys[j]? = some y ∧ P j x y
  | [], _, _ => ⟨[], rfl, fun j x h => by simp at h⟩
  | x :: xs, P, h => by
    obtain ⟨y, hy⟩ := h 0 x (by simp)
    obtain ⟨ys, hl, hys⟩ := choice_list xs (P := fun j => P (j + 1)) fun j z hz => h (j + 1) z (by simpa using hz)
    refine ⟨y :: ys, by simp [hl], fun j z hz => ?_⟩
    cases j with
    | zero => simp at hz; subst hz; exact ⟨y, by simp, hy⟩
    | succ j => obtain ⟨u, h1, h2⟩ := hys j z (by simpa using hz); exact ⟨u, by simpa using h1, h2⟩
/-- What the program's BlockAt answers, and its ReadKern. -/
def blockAt (d : DDisk) (a : Int) : RInts := if blockFault d a = 0 then ⟨0, blockL d a⟩ else ⟨blockFault d a, []⟩
theorem blockAt_b {d : DDisk} {a : Int} (h : ¬ blockFault d a = 0) : blockAt d a = ⟨blockFault d a, []⟩ := if_neg h
theorem blockAt_0 {d : DDisk} {a : Int} (h : blockFault d a = 0) : blockAt d a = ⟨0, blockL d a⟩ := if_pos h
theorem blockAt_f {d : DDisk} {a : Int} (h : ¬ diskFault d = 0) : blockAt d a = ⟨diskFault d, []⟩ := by rw [blockAt_b (by rw [blockFault_f h]; exact h), blockFault_f h]
theorem blockAt_3 {d : DDisk} {a : Int} (h : diskFault d = 0) (h2 : ¬ placeIn d.blocks.length a) : blockAt d a = ⟨3, []⟩ := by rw [blockAt_b (by rw [blockFault_3 h h2]; decide), blockFault_3 h h2]
theorem blockAt_1 {d : DDisk} {a : Int} (h : diskFault d = 0) (h2 : placeIn d.blocks.length a) : blockAt d a = ⟨0, blockL d a⟩ := blockAt_0 (blockFault_0 h h2)
theorem blk_in_d {d : DDisk} {a : Int} (h : diskFault d = 0) (h2 : placeIn d.blocks.length a) : d.cache.length ≤ 200 ∧ (0 ≤ a ∧ a < (d.blocks.length : Int)) := ⟨(diskFault_60 h).2, by unfold placeIn at h2; omega⟩
theorem blk_in_b {d : DDisk} {a : Int} (h : blockFault d a = 0) : d.cache.length ≤ 200 ∧ (0 ≤ a ∧ a < (d.blocks.length : Int)) := blk_in_d (blockFault_ok h).1 (blockFault_ok h).2
theorem own_in {k : DKern} {a : Int} (h : (ownerOf k a).code = 0) : kernFault k = 0 ∧ placeIn k.disk.blocks.length a := by
  by_cases h1 : kernFault k = 0
  · by_cases h2 : placeIn k.disk.blocks.length a
    · exact ⟨h1, h2⟩
    · rw [ownerOf_3 h1 h2] at h; cases h
  · rw [ownerOf_f h1] at h; exact absurd h h1
theorem may_in {k : DKern} {key a : Int} (h : mayFault k key a = 0) : kernFault k = 0 ∧ placeIn k.disk.blocks.length a := by
  by_cases h1 : (ownerOf k a).code = 0
  · exact own_in h1
  · rw [mayFault_n h1] at h; exact absurd h h1
theorem blk_in_k {k : DKern} {key a : Int} (h : mayFault k key a = 0) : k.disk.cache.length ≤ 200 ∧ (0 ≤ a ∧ a < (k.disk.blocks.length : Int)) := blk_in_d (kernOk (may_in h).1).1 (may_in h).2
def readKern (k : DKern) (key a : Int) : RKern := if mayFault k key a = 0 then ⟨0, blockL k.disk a, k⟩ else badKern (mayFault k key a)
theorem readKern_f {k : DKern} {key a : Int} (h : ¬ mayFault k key a = 0) : readKern k key a = badKern (mayFault k key a) := if_neg h
theorem readKern_0 {k : DKern} {key a : Int} (h : mayFault k key a = 0) : readKern k key a = ⟨0, blockL k.disk a, k⟩ := if_pos h
theorem blockL_64 {d : DDisk} {a : Int} (h : diskFault d = 0) : (blockL d a).length ≤ 64 := by
  obtain ⟨h1, h2, h3, h4⟩ := diskOk h
  unfold blockL
  cases hf : d.cache.reverse.find? fun p => p.at_ == a with
  | some p => exact words_64 (h4 p (List.mem_reverse.1 (List.mem_of_find?_eq_some hf))).2
  | none =>
    simp only [Option.map_none, Option.getD_none, List.getD_eq_getElem?_getD]
    cases hb : d.blocks[a.toNat]? with
    | none => simp
    | some b => exact words_64 (h3 b (List.mem_of_getElem? hb))
end Go.Proofs.Ytkmcpcahbfdohaa
/- What is proved: what is in the blocks of a disk behind a crash, a flush, a put: plain Lean. No condition. -/
namespace Go.Proofs.Ytkmcpcahbfdohaa
open Go
set_option linter.unusedVariables false
set_option linter.unusedSimpArgs false
theorem keepN_ne {all : Bool} {ks : List Bool} {ps : List DPut} {bs : List (List Int)} {q k : Nat} {p : DPut} {x : List Int} (hp : ps[q]? = some p) (hn : ¬ p.at_.toNat = k) (h : (keepN all ks ps bs q)[k]? = some x) : (keepN all ks ps bs (q + 1))[k]? = some x := by
  unfold keepN
  rw [hp]
  simp only
  split
  · rw [List.getElem?_set_ne hn]; exact h
  · exact h
theorem keepN_eq {all : Bool} {ks : List Bool} {ps : List DPut} {bs : List (List Int)} {q k : Nat} {p : DPut} (hp : ps[q]? = some p) (he : p.at_.toNat = k) (hk : k < bs.length) (ho : (all || ks.getD q false) = true) : (keepN all ks ps bs (q + 1))[k]? = some p.words := by
  unfold keepN
  rw [hp]
  simp only
  rw [if_pos ho, he, List.getElem?_set_self (by rw [keepN_len]; exact hk)]
theorem keepN_no {all : Bool} {ks : List Bool} {ps : List DPut} {bs : List (List Int)} {q k : Nat} {p : DPut} {x : List Int} (hp : ps[q]? = some p) (ho : (all || ks.getD q false) = false) (h : (keepN all ks ps bs q)[k]? = some x) : (keepN all ks ps bs (q + 1))[k]? = some x := by
  unfold keepN
  rw [hp]
  simp only
  rw [if_neg (by rw [ho]; decide)]
  exact h
/-- The words put last, as a flush leaves them. -/
theorem find_rev {ps : List DPut} {bs : List (List Int)} {k : Nat} (hk : k < bs.length) (hps : ∀ p, p ∈ ps → 0 ≤ p.at_) : ∀ q, q ≤ ps.length → (keepN true [] ps bs q)[k]? = some (((((ps.take q).reverse.find? fun p => p.at_ == (k : Int)).map (·.words))).getD (bs.getD k []))
  | 0, _ => by simp [keepN, List.getD_eq_getElem?_getD, List.getElem?_eq_getElem hk]
  | q + 1, hq => by
    have ih := find_rev hk hps q (by omega)
    have hp : ps[q]? = some (ps[q]'(by omega)) := List.getElem?_eq_getElem (by omega)
    obtain ⟨p, hpp⟩ : ∃ p, ps[q]'(by omega) = p := ⟨_, rfl⟩
    rw [hpp] at hp
    have hm := hps p (List.mem_of_getElem? hp)
    have ht : (ps.take (q + 1)).reverse = p :: (ps.take q).reverse := by rw [List.take_add_one, hp]; simp
    rw [ht]
    by_cases he : p.at_ = (k : Int)
    · rw [keepN_eq hp (by omega) hk rfl]
      simp [List.find?, he]
    · rw [keepN_ne hp (by omega) ih]
      have : (p.at_ == (k : Int)) = false := by simpa using he
      simp [List.find?, this]
theorem blockL_last {d : DDisk} (hd : diskFault d = 0) {k : Nat} (hk : k < d.blocks.length) {x : List Int} (h : (keepN true [] d.cache d.blocks d.cache.length)[k]? = some x) : blockL d (k : Int) = x := by
  obtain ⟨h1, h2, h3, h4⟩ := diskOk hd
  have := find_rev (ps := d.cache) (bs := d.blocks) hk (fun p hp => by have := (h4 p hp).1; first | exact this.1 | (unfold placeIn at this; omega) | omega) d.cache.length (Nat.le_refl _)
  rw [h] at this
  have := Option.some.inj this
  unfold blockL
  rw [this, List.take_length, Int.toNat_natCast]
theorem law_codes {d : DDisk} {ks : List Bool} : (crashDisk d ks).code = diskFault d ∧ (flushDisk d).code = diskFault d := by
  by_cases h : diskFault d = 0
  · rw [crashDisk_0 h, flushDisk_0 h, h]; exact ⟨rfl, rfl⟩
  · rw [crashDisk_f h, flushDisk_f h]; exact ⟨rfl, rfl⟩
theorem law_kept {d : DDisk} {ks : List Bool} (h : (crashDisk d ks).code = 0) : diskFault d = 0 ∧ (crashDisk d ks).disk.blocks = keepN false ks d.cache d.blocks d.cache.length ∧ (flushDisk d).disk.blocks = keepN true [] d.cache d.blocks d.cache.length ∧ (crashDisk d ks).disk.cache = [] ∧ (flushDisk d).disk.cache = [] ∧ (crashDisk d ks).disk.blocks.length = d.blocks.length ∧ (flushDisk d).disk.blocks.length = d.blocks.length := by
  rw [law_codes.1] at h
  rw [crashDisk_0 h, flushDisk_0 h]
  exact ⟨h, rfl, rfl, rfl, rfl, keepN_len _, keepN_len _⟩
/-- A put, and a new disk as large. -/
theorem law_put {d : DDisk} (h : diskFault d = 0) : ((putBlock d 0 [5, 6]).code = 2 ↔ (d.cache.length : Int) = 200) ∧ ((putBlock d 0 [5, 6]).code = 0 → (blockAt (putBlock d 0 [5, 6]).disk 0).list = [5, 6]) ∧ (newDisk (d.blocks.length : Int)).code = 0 ∧ (newDisk (d.blocks.length : Int)).disk.blocks.length = d.blocks.length := by
  obtain ⟨h1, h2, h3, h4⟩ := diskOk h
  have hw : wordsFault [5, 6] = 0 := by decide
  refine ⟨?_, ?_, ?_, ?_⟩
  · by_cases hp : placeIn d.blocks.length 0
    · by_cases hc : 200 ≤ d.cache.length
      · rw [putBlock_2 h hp hw hc]
        constructor
        · intro _; omega
        · intro _; rfl
      · rw [putBlock_0 h hp hw hc]
        constructor
        · intro e; exact absurd (show (0 : Int) = 2 from e) (by decide)
        · intro e; omega
    · rw [putBlock_3 h hp]
      constructor
      · intro e; exact absurd e (by decide)
      · intro e
        exfalso
        have hb : d.blocks.length = 0 := by unfold placeIn at hp; omega
        have hc : 0 < d.cache.length := by omega
        have := (h4 _ (List.getElem_mem hc)).1
        first
          | (unfold placeIn at this; omega)
          | omega
  · intro e
    by_cases hp : placeIn d.blocks.length 0
    · by_cases hc : 200 ≤ d.cache.length
      · rw [putBlock_2 h hp hw hc] at e; exact absurd e (by decide)
      · rw [putBlock_0 h hp hw hc]
        have hd : diskFault (⟨d.blocks, d.cache ++ [⟨0, [5, 6]⟩]⟩ : DDisk) = 0 := by
          refine diskFault_0 (by simp only; omega) (by simp only [List.length_append, List.length_cons, List.length_nil]; omega) (fun j y _ hy => h3 y (List.mem_of_getElem? hy)) (fun j y _ hy => ?_)
          have hy := List.mem_of_getElem? hy
          simp only [List.mem_append, List.mem_singleton] at hy
          rcases hy with hy | rfl
          · have := h4 y hy
            unfold putFault
            first
              | (rw [if_pos this.1]; exact this.2)
              | simp [this]
          · unfold putFault
            first
              | (rw [if_pos hp]; exact hw)
              | simp [hp, hw]
        rw [blockAt_0 (blockFault_0 hd hp)]
        show blockL _ 0 = [5, 6]
        unfold blockL
        simp [List.find?]
    · rw [putBlock_3 h hp] at e; exact absurd e (by decide)
  · unfold newDisk; first | (rw [if_pos (by omega)]) | (split <;> simp_all <;> omega)
  · unfold newDisk; first | (rw [if_pos (by omega)]; simp) | (split <;> simp_all <;> omega)
end Go.Proofs.Ytkmcpcahbfdohaa
/- What is proved: what a grant leaves in a kern: plain Lean. No condition. -/
namespace Go.Proofs.Ytkmcpcahbfdohaa
open Go
set_option linter.unusedVariables false
set_option linter.unusedSimpArgs false
theorem grant_in {k : DKern} {n : DExt} (h : (grant k n).code = 0) : kernFault k = 0 ∧ isExt k.disk.blocks.length n ∧ k.exts.any (ovP n) = false ∧ ¬ (8 : Int) ≤ k.exts.length := by
  by_cases h1 : kernFault k = 0
  · by_cases h2 : isExt k.disk.blocks.length n
    · cases h3 : k.exts.any (ovP n) with
      | true => rw [grant_7 h1 h2 h3] at h; exact absurd h (by decide)
      | false =>
        by_cases h4 : (8 : Int) ≤ k.exts.length
        · rw [grant_2 h1 h2 h3 h4] at h; exact absurd h (by decide)
        · exact ⟨h1, h2, rfl, h4⟩
    · rw [grant_3 h1 h2] at h; exact absurd h (by decide)
  · rw [grant_f h1] at h; exact absurd h h1
theorem grant_len {k : DKern} {n : DExt} {a b : Nat} (hE : k.disk.blocks.length ≤ a ∧ k.disk.cache.length ≤ b ∧ k.exts.length ≤ 8) (h : (grant k n).code = 0) : (grant k n).kern.disk.blocks.length ≤ a ∧ (grant k n).kern.disk.cache.length ≤ b ∧ (grant k n).kern.exts.length ≤ 8 := by
  obtain ⟨h1, h2, h3, h4⟩ := grant_in h
  rw [grant_0 h1 h2 h3 h4 rfl]
  refine ⟨hE.1, hE.2.1, ?_⟩
  simp only [List.length_append, List.length_take, List.length_drop, List.length_cons, List.length_nil]
  omega
end Go.Proofs.Ytkmcpcahbfdohaa
/- What is proved: a row of a few slices handed on; an append of a make to nothing. No condition. -/
namespace Go.Proofs.Ytkmcpcahbfdohaa
open Go Go.RowKit
set_option linter.unusedVariables false
set_option linter.unusedSimpArgs false
theorem Tr.lit2 {α : Type} {K : Kd α} {e by_ g c : Nat} {w0 w : World} {S0 S1 : Bs} {lr l' : List Asn} {x0 x1 : α} {v0 v1 : Value} (tr : Tr w0 S0 w S1 lr) (tk : Take lr (rowA g e 1 c [v0, v1]) l') (hK : K.sz = 1) (h0 : K.ro w (FF w S1) x0 [v0]) (h1 : K.ro w (FF w S1) x1 [v1]) (hb : 2 * by_ ≤ 140737488355328) : (kslice e by_ K).ro w (FF w S1) [x0, x1] [.slice (some ⟨g, 0, none⟩) 2 2] := by
  obtain ⟨ecs, hF, ⟨c1, c2, rfl, r0, r1⟩, hc⟩ := tr.ptr (K := kpair K K) (x := (x0, x1)) tk ⟨[v0], [v1], rfl, h0, h1⟩
  have l1 := K.ro_len r0
  have l2 := K.ro_len r1
  rw [hK] at l1 l2
  refine ⟨some ⟨g, 0, none⟩, 2, rfl, Nat.le_refl _, by omega, hb, fun _ => ⟨_, rfl, hF, fun j x hj => ?_⟩⟩
  match j, hj with
  | 0, hj =>
    obtain rfl : x0 = x := by simpa using hj
    refine ⟨c1, r0, fun i u hu => ?_⟩
    have hi := (List.getElem?_eq_some_iff.1 hu).1
    rw [hK, show 0 * 1 + i = i by omega]
    exact hc i u (by rw [List.getElem?_append_left hi]; exact hu)
  | 1, hj =>
    obtain rfl : x1 = x := by simpa using hj
    refine ⟨c2, r1, fun i u hu => ?_⟩
    rw [hK, show 1 * 1 + i = 1 + i by omega]
    exact hc (1 + i) u (by rw [List.getElem?_append_right (by omega), l1, show 1 + i - 1 = i by omega]; exact hu)
  | j + 2, hj => simp at hj
section
variable {w0 : World} {S0 : Bs} {T : Slots} {l l' : List Asn} {P : Program} {o : Oper}
/-- 'append(nothing, make(..)...)': a new row. -/
theorem e_appendMake0 {α : Type} {K : Kd α} {e by_ k : Nat} {x0 : α} {z : Value} {s q : Operand} {t tn : TypeId} {kq kn : IntKind} (ho : o.op = .call { callee := .builtin .append, args := #[s, q], argTypes := #[t, tn] }) (ht : P.underlying t = some (.slice e)) (htn : P.underlying tn = some (.int kn))
    (hi : (P.info? e).map (fun i => (i.size, i.bytes, i.zero)) = some (K.sz, by_, some z)) (hz : z.cells.size = K.sz) (h0 : ∀ w S, K.own w S x0 z.cells.toList) (hs : Val T s (.slice none 0 0)) (hq : Val T q (.int kq (k : Int))) (hk : 0 < k) (hb : k * by_ ≤ 140737488355328) (h63 : k ≤ 140737488355328) :
    Eff P o T w0 S0 l (fun r l2 => l2 = ownA (kslice e by_ K) (List.replicate k x0) [r] :: l) := by
  intro a w ha hw
  obtain ⟨i0, k1, k2⟩ := Option.map_eq_some_iff.1 hi
  obtain ⟨k2, k3⟩ := Prod.mk.inj k2
  obtain ⟨k3, k4⟩ := Prod.mk.inj k3
  have hpos := K.pos
  have hr := Lib.run_append_grow_zeros (P := P) w t tn o.type e i0 z kq kn ht htn k1 k4 none 0 0 [] (run_firstCells_none _ _ _ _ _) k hk (by omega) (by omega) (by omega) (by rw [k3]; omega) (growslice_fits (by omega) (by rw [k3]; simpa using hb))
  rw [Nat.zero_add] at hr
  have hge := grownCap_ge w k 0 e
  have hcm := grownCap_le_maxLen w k 0 e (by unfold maxLen; omega)
  unfold maxLen at hcm
  have hzk : (Builtin.zeroCells z.cells k).toList = (List.replicate k z.cells.toList).flatten := by
    have := madeCells_flat z.cells k (by omega)
    rw [← this]
    rfl
  have hzl : ((List.replicate k z.cells.toList).flatten).length = k * K.sz := by rw [← hzk, Array.length_toList, size_zeroCells, hz]
  have hwd : WS w0 S0 l w.drew := hw.drewn
  obtain ⟨S, ⟨A, B, h1, h2, i1, i2, d⟩, hbs, hf⟩ := hwd.new (([] : List Value).toArray ++ Builtin.zeroCells z.cells k ++ Builtin.zeroCells z.cells (grownCap w k 0 e - k)) e K.sz (grownCap w k 0 e) (by
    simp only [Array.size_append, List.size_toArray, List.length_nil, size_zeroCells, hz, Nat.zero_add, ← Nat.add_mul]
    congr 1; omega)
  obtain ⟨hg1, cur, q1, q2, q3, q4⟩ := h1
  refine ⟨_, _, _, ?_, rfl, S, ⟨A, B, .inr ⟨w.heap.size, _, List.replicate k z.cells.toList, rfl, ?_, ?_, ?_, ?_, A, fun _ => False, ⟨hg1, cur, q1, q2, ?_, ?_⟩, seq_rep h0 k _ _, fun _ h => h, fun _ h => h.elim, fun _ _ h => h⟩, h2, i1, i2, d⟩, hbs, hf⟩
  · simp only [execOp, ho, hs a ha, hq a ha]
    simp only [List.length_replicate]
    simp [resolve, hs a ha, hq a ha, invoke, builtin, hr]
  · rw [List.length_replicate]; exact hge
  · omega
  · rw [List.length_replicate]; exact hb
  · simp
  · rw [hzl, q2]
    exact Nat.mul_le_mul_right _ hge
  · rw [hzl]
    have e1 : cur.toList = (([] : List Value).toArray ++ Builtin.zeroCells z.cells k ++ Builtin.zeroCells z.cells (grownCap w k 0 e - k)).toList := by
      rw [Array.length_toList] at q3 q4
      have hs : cur.size = (([] : List Value).toArray ++ Builtin.zeroCells z.cells k ++ Builtin.zeroCells z.cells (grownCap w k 0 e - k)).size := by
        rw [q2]
        simp only [Array.size_append, List.size_toArray, List.length_nil, size_zeroCells, hz, Nat.zero_add, ← Nat.add_mul]
        congr 1; omega
      rw [← q4, List.take_of_length_le (by rw [Array.length_toList]; omega)]
    rw [e1]
    simp only [Array.toList_append, List.nil_append]
    rw [hzk, ← hzl]
    exact List.take_left
end
end Go.Proofs.Ytkmcpcahbfdohaa
/- What is proved: results of which one lies in memory. No condition. -/
namespace Go.Proofs.Ytkmcpcahbfdohaa
open Go Go.RowKit
set_option linter.unusedVariables false
set_option linter.unusedSimpArgs false
section
variable {w0 : World} {S0 : Bs} {T : Slots} {l : List Asn} {P : Program}
theorem res_ct {fn : Func} {s ty u : Nat} {ad : Addr} {cs : List Value} {v : Value} (hr : fn.results = #[.cell s ty, .tmp u]) (h : Get T (s, .pointer (some ad))) (hg : AggIs P ty true) (hi : (P.info? ty).map (·.size) = some cs.length)
    (hc : ∀ w, WS w0 S0 l w → ∀ (i : Nat) (u : Value), cs[i]? = some u → w.cell? (ad.add i) = some u) (k : Get T (u, v)) : ∀ (a : Act) (w : World), Holds T a → WS w0 S0 l w → (results fn a.tmps).run P w = .ok (.tuple #[.agg cs.toArray, v]) w := fun a w ha hw => by
  obtain ⟨d, ht, hd⟩ := hg.ex
  have hag := run_isAgg ht w
  rw [hd] at hag
  obtain ⟨i0, h1, h2⟩ := Option.map_eq_some_iff.1 hi
  have hl := run_loadCells_list (P := P) w ad cs (hc w hw)
  have e1 := slot_of h ha
  have e2 := slot_of k ha
  simp only [Array.getD_eq_getD_getElem?] at e1 e2
  simp [results, hr, e1, e2, asAddr, loadVar, Sem.run_bind, hag, sizeOf, typeInfo, h1, h2, hl]
theorem res_ctt {fn : Func} {s ty u0 u1 : Nat} {ad : Addr} {cs : List Value} {v0 v1 : Value} (hr : fn.results = #[.cell s ty, .tmp u0, .tmp u1]) (h : Get T (s, .pointer (some ad))) (hg : AggIs P ty true) (hi : (P.info? ty).map (·.size) = some cs.length)
    (hc : ∀ w, WS w0 S0 l w → ∀ (i : Nat) (u : Value), cs[i]? = some u → w.cell? (ad.add i) = some u) (k0 : Get T (u0, v0)) (k1 : Get T (u1, v1)) : ∀ (a : Act) (w : World), Holds T a → WS w0 S0 l w → (results fn a.tmps).run P w = .ok (.tuple #[.agg cs.toArray, v0, v1]) w := fun a w ha hw => by
  obtain ⟨d, ht, hd⟩ := hg.ex
  have hag := run_isAgg ht w
  rw [hd] at hag
  obtain ⟨i0, h1, h2⟩ := Option.map_eq_some_iff.1 hi
  have hl := run_loadCells_list (P := P) w ad cs (hc w hw)
  have e1 := slot_of h ha
  have f0 := slot_of k0 ha
  have f1 := slot_of k1 ha
  simp only [Array.getD_eq_getD_getElem?] at e1 f0 f1
  simp [results, hr, e1, f0, f1, asAddr, loadVar, Sem.run_bind, hag, sizeOf, typeInfo, h1, h2, hl]
theorem res_cttt {fn : Func} {s ty u0 u1 u2 : Nat} {ad : Addr} {cs : List Value} {v0 v1 v2 : Value} (hr : fn.results = #[.cell s ty, .tmp u0, .tmp u1, .tmp u2]) (h : Get T (s, .pointer (some ad))) (hg : AggIs P ty true) (hi : (P.info? ty).map (·.size) = some cs.length)
    (hc : ∀ w, WS w0 S0 l w → ∀ (i : Nat) (u : Value), cs[i]? = some u → w.cell? (ad.add i) = some u) (k0 : Get T (u0, v0)) (k1 : Get T (u1, v1)) (k2 : Get T (u2, v2)) : ∀ (a : Act) (w : World), Holds T a → WS w0 S0 l w → (results fn a.tmps).run P w = .ok (.tuple #[.agg cs.toArray, v0, v1, v2]) w := fun a w ha hw => by
  obtain ⟨d, ht, hd⟩ := hg.ex
  have hag := run_isAgg ht w
  rw [hd] at hag
  obtain ⟨i0, h1, h2⟩ := Option.map_eq_some_iff.1 hi
  have hl := run_loadCells_list (P := P) w ad cs (hc w hw)
  have e1 := slot_of h ha
  have f0 := slot_of k0 ha
  have f1 := slot_of k1 ha
  have f2 := slot_of k2 ha
  simp only [Array.getD_eq_getD_getElem?] at e1 f0 f1 f2
  simp [results, hr, e1, f0, f1, f2, asAddr, loadVar, Sem.run_bind, hag, sizeOf, typeInfo, h1, h2, hl]
end
end Go.Proofs.Ytkmcpcahbfdohaa
/- What is proved: an element of a row of one's own, a struct, is read whole. No condition. -/
namespace Go.Proofs.Ytkmcpcahbfdohaa
open Go Go.RowKit
set_option linter.unusedVariables false
section
variable {w0 : World} {S0 : Bs} {l l' : List Asn}
theorem WS.oels {α : Type} {K : Kd α} {e by_ : Nat} {xs : List α} {ad : Addr} {n c j : Nat} {x : α} {cs : List Value} (hro : ∀ (w : World) (F : Bs) (ecs : List Value), K.ro w F x ecs → ecs = cs) (ht : Take l (ownA (kslice e by_ K) xs [.slice (some ad) n c]) l') (hx : xs[j]? = some x) : ∀ w, WS w0 S0 l w → ∀ (i : Nat) (u : Value), cs[i]? = some u → w.cell? ((ad.add (j * K.sz)).add i) = some u := fun w hw i u hu => by
  obtain ⟨S, hs, _, _⟩ := hw.take ht
  obtain ⟨A', c', h, _, _, _, h4⟩ := ro_form ((kslice e by_ K).own_ro (show (kslice e by_ K).own w S xs _ from hs.head))
  obtain ⟨ad', ha, hr⟩ := h4 (by have := (List.getElem?_eq_some_iff.1 hx).1; omega)
  injection h with g1 g2 g3
  rw [ha] at g1
  obtain rfl := Option.some.inj g1
  obtain ⟨ecs, h5, h6⟩ := hr.2 j x hx
  obtain rfl := hro _ _ _ h5
  rw [add_add]
  exact h6 i u hu
end
end Go.Proofs.Ytkmcpcahbfdohaa
/- What is proved: paths: cut at a byte, joined again, in plain Lean. No condition. -/
namespace Go.Proofs.Ytkmcpcahbfdohaa
open Go Go.RowKit
set_option linter.unusedVariables false
set_option linter.unusedSimpArgs false
abbrev sl1 : ByteArray := ⟨#[47]⟩
/-! ### cut at a slash -/
def cutL : List UInt8 → List (List UInt8)
  | [] => [[]]
  | b :: l => if b = 47 then [] :: cutL l else match cutL l with | [] => [[b]] | p :: ps => (b :: p) :: ps
theorem cutL_ne : ∀ l, cutL l ≠ []
  | [] => by simp [cutL]
  | b :: l => by
    unfold cutL
    split
    · simp
    · split <;> simp
theorem cutL_no : ∀ {l : List UInt8}, (∀ b, b ∈ l → b ≠ 47) → cutL l = [l]
  | [], _ => rfl
  | b :: l, h => by
    unfold cutL
    rw [if_neg (h b (by simp)), cutL_no (fun c hc => h c (by simp [hc]))]
theorem cutL_at : ∀ {n : Nat} {l : List UInt8}, (∀ (j : Nat) b, j < n → l[j]? = some b → b ≠ 47) → l[n]? = some 47 → cutL l = l.take n :: cutL (l.drop (n + 1))
  | 0, [], _, h => by simp at h
  | 0, b :: l, _, h => by
    have : b = 47 := by simpa using h
    subst this
    rw [cutL, if_pos rfl]
    simp
  | n + 1, [], _, h => by simp at h
  | n + 1, b :: l, ha, h => by
    have ih := cutL_at (n := n) (l := l) (fun j c hj hc => ha (j + 1) c (by omega) (by simpa using hc)) (by simpa using h)
    have h0 : b ≠ 47 := ha 0 b (by omega) (by simp)
    rw [cutL, if_neg h0, ih]
    simp
theorem split_eq : ∀ l : List UInt8, Lib.split l [47] = cutL l
  | [] => by
    have : Lib.index [] [47] = -1 := by decide
    unfold Lib.split
    rw [Lib.count_miss this]
    rfl
  | b :: l => by
    have ih := split_eq l
    unfold Lib.split at ih ⊢
    by_cases hb : b = 47
    · subst hb
      have hix : Lib.index ((47 : UInt8) :: l) [47] = ((0 : Nat) : Int) := by rw [Lib.index]; simp [List.isPrefixOf]
      rw [Lib.count_cons_eq, Nat.add_comm, Lib.splitK, if_neg (by rw [hix]; decide), hix]
      rw [cutL, if_pos rfl, ← ih]
      simp
    · have hp : ([47] : List UInt8).isPrefixOf (b :: l) = false := by simp [List.isPrefixOf, Ne.symm hb]
      have hix : Lib.index (b :: l) [47] = if Lib.index l [47] == -1 then -1 else Lib.index l [47] + 1 := by rw [Lib.index, hp]; simp
      rw [Lib.count_cons_ne b 47 l hb, cutL, if_neg hb]
      by_cases hm : Lib.index l [47] = -1
      · rw [Lib.count_miss hm] at ih ⊢
        rw [Lib.splitK] at ih ⊢
        rw [← ih]
      · have hge := Lib.index_ge l [47]
        obtain ⟨j, hj⟩ : ∃ j : Nat, Lib.index l [47] = j := ⟨(Lib.index l [47]).toNat, by omega⟩
        have hc : Lib.count l [47] = Lib.count (l.drop (j + 1)) [47] + 1 := by rw [Lib.count_hit (by simp) hj]; simp; omega
        have hix' : Lib.index (b :: l) [47] = ((j + 1 : Nat) : Int) := by rw [hix, if_neg (fun e => hm (beq_iff_eq.1 e)), hj]; omega
        rw [hc] at ih ⊢
        rw [Lib.splitK, if_neg (by rw [hj]; simp), hj] at ih
        rw [Lib.splitK, if_neg (by rw [hix']; simp; omega), hix', ← ih]
        simp
def cutB (s : ByteArray) : List ByteArray := (cutL s.data.toList).map bstr
theorem bstr_data (s : ByteArray) : bstr s.data.toList = s := by cases s; simp [bstr]
theorem splitB_cut (s : ByteArray) : Lib.splitB sl1 0 (Lib.countB s sl1) s = cutB s := by
  have h := Lib.splitB_data sl1 0 (Lib.countB s sl1) s
  have e : Lib.splitK sl1.data.toList 0 (Lib.countB s sl1) s.data.toList = cutL s.data.toList := split_eq s.data.toList
  rw [e] at h
  unfold cutB
  rw [← h, List.map_map]
  have : (bstr ∘ fun x : ByteArray => x.data.toList) = id := funext fun x => bstr_data x
  rw [this, List.map_id]
theorem cutB_ne (s : ByteArray) : cutB s ≠ [] := by unfold cutB; simp [cutL_ne]
theorem cutB_len (s : ByteArray) : 1 ≤ (cutB s).length := by
  have := cutB_ne s
  cases h : cutB s with
  | nil => exact absurd h this
  | cons a l => simp
theorem cutL_len : ∀ l : List UInt8, (cutL l).length ≤ l.length + 1
  | [] => by simp [cutL]
  | b :: l => by
    have := cutL_len l
    unfold cutL
    split
    · simp; omega
    · split
      · simp
      · rename_i p ps h
        rw [h] at this
        simp at this ⊢
        omega
theorem cutL_size : ∀ (l : List UInt8) (p : List UInt8), p ∈ cutL l → p.length ≤ l.length
  | [], p, h => by simp [cutL] at h; subst h; simp
  | b :: l, p, h => by
    unfold cutL at h
    split at h
    · rcases List.mem_cons.1 h with rfl | h
      · simp
      · have := cutL_size l p h; simp; omega
    · split at h
      · rename_i h2; exact absurd h2 (cutL_ne l)
      · rename_i q ps h2
        rcases List.mem_cons.1 h with rfl | h
        · have := cutL_size l q (by rw [h2]; simp); simp; omega
        · have := cutL_size l p (by rw [h2]; simp [h]); simp; omega
theorem cutB_size {s p : ByteArray} (h : p ∈ cutB s) : p.size ≤ s.size := by
  unfold cutB at h
  obtain ⟨q, hq, rfl⟩ := List.mem_map.1 h
  have := cutL_size _ q hq
  have e := str_len s
  have e2 : (bstr q).size = q.length := by simp [bstr, ByteArray.size]
  omega
/-! the loop that cuts -/
def CI (l : List UInt8) (m k : Nat) (out : List ByteArray) : Prop :=
  m ≤ k ∧ (∀ (j : Nat) b, m ≤ j → j < k → l[j]? = some b → b ≠ 47) ∧ (cutL l).map bstr = out ++ (cutL (l.drop m)).map bstr
theorem CI_0 {l : List UInt8} : CI l 0 0 [] := ⟨Nat.le_refl _, fun j b h1 h2 => absurd h2 (by omega), rfl⟩
theorem CI_n {l : List UInt8} {m k : Nat} {out : List ByteArray} {b : UInt8} (h : CI l m k out) (hb : l[k]? = some b) (hn : b ≠ 47) : CI l m (k + 1) out :=
  ⟨by have := h.1; omega, fun j c h1 h2 hc => by
    rcases Nat.lt_succ_iff_lt_or_eq.1 h2 with h3 | rfl
    · exact h.2.1 j c h1 h3 hc
    · rw [hb] at hc; obtain rfl := Option.some.inj hc; exact hn, h.2.2⟩
theorem CI_y {s : ByteArray} {m k : Nat} {out : List ByteArray} {b : UInt8} (h : CI s.data.toList m k out) (hb : s.data.toList[k]? = some b) (hn : b = 47) : CI s.data.toList (k + 1) (k + 1) (out ++ [s.extract m k]) := by
  subst hn
  obtain ⟨h1, h2, h3⟩ := h
  refine ⟨Nat.le_refl _, fun j c a b => absurd a (by omega), ?_⟩
  have hk : m + (k - m) = k := by omega
  have e := cutL_at (n := k - m) (l := s.data.toList.drop m) (fun j c hj hc => h2 (m + j) c (by omega) (by omega) (by rw [List.getElem?_drop] at hc; exact hc)) (by rw [List.getElem?_drop, hk]; exact hb)
  rw [h3, e, List.drop_drop, List.map_cons, show m + (k - m + 1) = k + 1 by omega]
  have e2 : s.extract m k = bstr (List.take (k - m) (List.drop m s.data.toList)) := by
    rw [← bstr_data (s.extract m k), Lib.extract_data]
  rw [e2]
  simp
theorem CI_end {s : ByteArray} {m k : Nat} {out : List ByteArray} (h : CI s.data.toList m k out) (hk : k = s.size) : out ++ [s.extract m k] = cutB s := by
  subst hk
  obtain ⟨h1, h2, h3⟩ := h
  unfold cutB
  rw [h3, cutL_no (fun b hb => by
    obtain ⟨j, hj⟩ := List.mem_iff_getElem?.1 hb
    rw [List.getElem?_drop] at hj
    have := (List.getElem?_eq_some_iff.1 hj).1
    rw [str_len] at this
    exact h2 (m + j) b (by omega) (by omega) hj)]
  have e : List.take (s.size - m) (List.drop m s.data.toList) = List.drop m s.data.toList := List.take_of_length_le (by rw [List.length_drop, str_len]; omega)
  rw [← bstr_data (s.extract m s.size), Lib.extract_data, e]
  simp
/-! ### the faults of names -/
def firstC : List ByteArray → Int
  | [] => 0
  | s :: l => if nameFault s = 0 then firstC l else nameFault s
theorem firstC_all : ∀ {xs : List ByteArray}, (∀ (j : Nat) s, xs[j]? = some s → nameFault s = 0) → firstC xs = 0
  | [], _ => rfl
  | s :: l, h => by
    unfold firstC
    rw [if_pos (h 0 s (by simp))]
    exact firstC_all (fun j t ht => h (j + 1) t (by simpa using ht))
theorem firstC_at : ∀ {xs : List ByteArray} {k : Nat} {s : ByteArray}, (∀ (j : Nat) s, j < k → xs[j]? = some s → nameFault s = 0) → xs[k]? = some s → ¬ nameFault s = 0 → firstC xs = nameFault s
  | [], _, _, _, h, _ => by simp at h
  | t :: l, 0, s, _, h, hn => by
    have : t = s := by simpa using h
    subst this
    unfold firstC
    rw [if_neg hn]
  | t :: l, k + 1, s, ha, h, hn => by
    unfold firstC
    rw [if_pos (ha 0 t (by omega) (by simp))]
    exact firstC_at (k := k) (fun j u hj hu => ha (j + 1) u (by omega) (by simpa using hu)) (by simpa using h) hn
theorem firstC_0 : ∀ {xs : List ByteArray}, firstC xs = 0 → ∀ s, s ∈ xs → nameFault s = 0
  | [], _, _, h => by simp at h
  | t :: l, h0, s, h => by
    unfold firstC at h0
    split at h0
    · rename_i ht
      rcases List.mem_cons.1 h with rfl | h
      · exact ht
      · exact firstC_0 h0 s h
    · rename_i ht; exact absurd h0 ht
def namesC (xs : List ByteArray) : Int := if 6 < xs.length then 2 else firstC xs
theorem namesC_2 {xs : List ByteArray} (h : 6 < xs.length) : namesC xs = 2 := if_pos h
theorem namesC_n {xs : List ByteArray} (h : ¬ 6 < xs.length) {k : Nat} {s : ByteArray} (ha : ∀ (j : Nat) s, j < k → xs[j]? = some s → nameFault s = 0) (hs : xs[k]? = some s) (hn : ¬ nameFault s = 0) : namesC xs = nameFault s := by rw [namesC, if_neg h, firstC_at ha hs hn]
theorem namesC_0 {xs : List ByteArray} (h : ¬ 6 < xs.length) {k : Nat} (ha : ∀ (j : Nat) s, j < k → xs[j]? = some s → nameFault s = 0) (hk : xs.length ≤ k) : namesC xs = 0 := by
  rw [namesC, if_neg h]
  exact firstC_all fun j s hs => ha j s (Nat.lt_of_lt_of_le (List.getElem?_eq_some_iff.1 hs).1 hk) hs
theorem namesOk {xs : List ByteArray} (h : namesC xs = 0) : xs.length ≤ 6 ∧ ∀ s, s ∈ xs → nameFault s = 0 := by
  unfold namesC at h
  split at h
  · exact absurd h (by decide)
  · exact ⟨by omega, firstC_0 h⟩
/-! ### a path split -/
abbrev tailB (s : ByteArray) : ByteArray := ByteArray.extract s 1 s.size
def badP (s : ByteArray) : Prop := s.data.toList[0]? ≠ some 47 ∨ s.data.toList[s.size - 1]? = some 47
instance (s : ByteArray) : Decidable (badP s) := by unfold badP; infer_instance
def splitC (s : ByteArray) : Int := if 30 < s.size then 2 else if s = sl1 then 0 else if badP s then 5 else namesC (cutB (tailB s))
def splitN (s : ByteArray) : List ByteArray := if splitC s = 0 ∧ s ≠ sl1 then cutB (tailB s) else []
theorem split_2 {s : ByteArray} (h : 30 < s.size) : splitC s = 2 ∧ splitN s = [] := by
  have : splitC s = 2 := if_pos h
  exact ⟨this, by rw [splitN, if_neg]; rw [this]; simp⟩
theorem split_r {s : ByteArray} (h : ¬ 30 < s.size) (h2 : s = sl1) : splitC s = 0 ∧ splitN s = [] := by
  have : splitC s = 0 := by rw [splitC, if_neg h, if_pos h2]
  exact ⟨this, by rw [splitN, if_neg]; simp [h2]⟩
theorem split_5 {s : ByteArray} (h : ¬ 30 < s.size) (h2 : ¬ s = sl1) (h3 : badP s) : splitC s = 5 ∧ splitN s = [] := by
  have : splitC s = 5 := by rw [splitC, if_neg h, if_neg h2, if_pos h3]
  exact ⟨this, by rw [splitN, if_neg]; rw [this]; simp⟩
theorem split_c {s : ByteArray} (h : ¬ 30 < s.size) (h2 : ¬ s = sl1) (h3 : ¬ badP s) (h4 : ¬ namesC (cutB (tailB s)) = 0) : splitC s = namesC (cutB (tailB s)) ∧ splitN s = [] := by
  have : splitC s = namesC (cutB (tailB s)) := by rw [splitC, if_neg h, if_neg h2, if_neg h3]
  exact ⟨this, by rw [splitN, if_neg]; rw [this]; simp [h4]⟩
theorem split_0 {s : ByteArray} (h : ¬ 30 < s.size) (h2 : ¬ s = sl1) (h3 : ¬ badP s) (h4 : namesC (cutB (tailB s)) = 0) : splitC s = 0 ∧ splitN s = cutB (tailB s) := by
  have : splitC s = 0 := by rw [splitC, if_neg h, if_neg h2, if_neg h3, h4]
  exact ⟨this, by rw [splitN, if_pos ⟨this, h2⟩]⟩
theorem splitN_ok (s : ByteArray) : (splitN s).length ≤ 6 ∧ ∀ x, x ∈ splitN s → nameFault x = 0 := by
  by_cases h : splitC s = 0 ∧ s ≠ sl1
  · obtain ⟨h1, h2⟩ := h
    have h3 : splitN s = cutB (tailB s) := by rw [splitN, if_pos ⟨h1, h2⟩]
    unfold splitC at h1
    split at h1
    · exact absurd h1 (by decide)
    · split at h1
      · exact absurd h1 (by decide)
      · rw [h3]; exact namesOk h1
  · rw [splitN, if_neg h]; simp
/-! ### joined -/
def joinL (xs : List ByteArray) : List UInt8 := (xs.map (fun s => 47 :: s.data.toList)).flatten
def joinB (xs : List ByteArray) : ByteArray := if xs = [] then sl1 else bstr (joinL xs)
theorem join_eq (xs : List ByteArray) : sl1 ++ bstr (Lib.join (xs.map (·.data.toList)) [47]) = joinB xs := by
  cases xs with
  | nil => rfl
  | cons x r =>
    rw [joinB, if_neg (by simp), List.map_cons, Lib.join_cons]
    rw [← bstr_data (sl1 ++ _)]
    congr 1
    simp [joinL, Lib.joinTail, bstr, List.map_map, Function.comp_def]
theorem joinL_len {xs : List ByteArray} (h : ∀ s, s ∈ xs → nameFault s = 0) : (joinL xs).length ≤ 5 * xs.length := by
  induction xs with
  | nil => simp [joinL]
  | cons x r ih =>
    have h1 := (name_4 (h x (by simp))).1
    have h2 := ih (fun s hs => h s (by simp [hs]))
    have h3 := str_len x
    simp only [joinL, List.map_cons, List.flatten_cons, List.length_append, List.length_cons] at h2 ⊢
    omega
theorem joinL_snoc (xs : List ByteArray) (x : ByteArray) : joinL (xs ++ [x]) = joinL xs ++ 47 :: x.data.toList := by simp [joinL]
def jnB (xs : List ByteArray) : ByteArray := bstr (joinL xs)
theorem jnB_s {xs : List ByteArray} {k : Nat} {x : ByteArray} (h : xs[k]? = some x) : jnB (xs.take k) ++ sl1 ++ x = jnB (xs.take (k + 1)) := by
  rw [List.take_add_one, h]
  have e : ∀ a b : ByteArray, a = bstr b.data.toList → a = b := fun a b h => by rw [h, bstr_data]
  symm
  apply e
  unfold jnB
  congr 1
  simp [joinL, bstr]
theorem jnB_e {xs : List ByteArray} : (jnB xs = ⟨#[]⟩) ↔ xs = [] := by
  constructor
  · intro h
    cases xs with
    | nil => rfl
    | cons x r =>
      have := congrArg (fun b : ByteArray => b.data.toList) h
      simp [jnB, bstr, joinL] at this
  · rintro rfl; rfl
theorem joinB_e {xs : List ByteArray} (h : jnB xs = ⟨#[]⟩) : joinB xs = sl1 := if_pos (jnB_e.1 h)
theorem joinB_n {xs : List ByteArray} (h : ¬ jnB xs = ⟨#[]⟩) : joinB xs = jnB xs := if_neg (fun e => h (jnB_e.2 e))
theorem jnB_size {xs : List ByteArray} (h : ∀ s, s ∈ xs → nameFault s = 0) : (jnB xs).size ≤ 5 * xs.length := by
  have := joinL_len h
  simpa [jnB, bstr, ByteArray.size] using this
theorem joinB_size {xs : List ByteArray} (h : ∀ s, s ∈ xs → nameFault s = 0) : (joinB xs).size ≤ 5 * xs.length + 1 := by
  unfold joinB
  split
  · show (1 : Nat) ≤ _; omega
  · have := jnB_size h; unfold jnB at this; omega
theorem join_sz {xs : List ByteArray} (h : ∀ s, s ∈ xs → nameFault s = 0) (hl : xs.length ≤ 6) : (bstr (Lib.join (List.map (fun s : ByteArray => s.data.toList) xs) [47])).size ≤ 30 := by
  have h1 := joinB_size h
  have h2 := congrArg ByteArray.size (join_eq xs)
  rw [ByteArray.size_append] at h2
  have h3 : sl1.size = 1 := rfl
  have h4 : (bstr (Lib.join (xs.map (·.data.toList)) [47])).size = (bstr (Lib.join (List.map (fun s : ByteArray => s.data.toList) xs) [47])).size := rfl
  omega
theorem size_0 {s : ByteArray} {b : UInt8} {j : Nat} (h : s.data.toList[j]? = some b) : j < s.size := by rw [← str_len]; exact (List.getElem?_eq_some_iff.1 h).1
theorem byte_47 {b : UInt8} : (b.toNat : Int) = 47 ↔ b = 47 := ⟨fun h => UInt8.toNat_inj.1 (show b.toNat = (47 : UInt8).toNat by have : (47 : UInt8).toNat = 47 := rfl; omega), fun h => by subst h; rfl⟩
theorem bad_e {s : ByteArray} (h : (s.size : Int) = 0) : badP s := .inl (by rw [List.getElem?_eq_none (by rw [str_len]; omega)]; simp)
theorem bad_f {s : ByteArray} {b : UInt8} (hb : s.data.toList[0]? = some b) (h : ¬ (b.toNat : Int) = 47) : badP s := .inl (by rw [hb]; intro e; exact h (byte_47.2 (Option.some.inj e)))
theorem bad_l {s : ByteArray} {b : UInt8} {j : Nat} (hb : s.data.toList[j]? = some b) (hj : j = s.size - 1) (h : (b.toNat : Int) = 47) : badP s := .inr (by rw [← hj, hb, byte_47.1 h])
theorem nbad {s : ByteArray} {b c : UInt8} {j : Nat} (hb : s.data.toList[0]? = some b) (h : (b.toNat : Int) = 47) (hc : s.data.toList[j]? = some c) (hj : j = s.size - 1) (hn : ¬ (c.toNat : Int) = 47) : ¬ badP s := by
  rintro (h1 | h1)
  · exact h1 (by rw [hb, byte_47.1 h])
  · rw [← hj, hc] at h1; exact hn (byte_47.2 (Option.some.inj h1))
theorem nbad2 {s : ByteArray} (h : s.data.toList[0]? = some 47) (h2 : ¬ s.data.toList[s.size - 1]? = some 47) : ¬ badP s := by
  rintro (h1 | h1)
  · exact h1 h
  · exact h2 h1
/-! ### what is told -/
def splitR (s : ByteArray) : RNames := ⟨splitC s, splitN s⟩
def joinR (xs : List ByteArray) : RText := if namesC xs = 0 then ⟨0, joinB xs⟩ else ⟨namesC xs, ⟨#[]⟩⟩
theorem joinR_c {xs : List ByteArray} (h : ¬ namesC xs = 0) : joinR xs = ⟨namesC xs, ⟨#[]⟩⟩ := if_neg h
theorem joinR_0 {xs : List ByteArray} (h : namesC xs = 0) : joinR xs = ⟨0, joinB xs⟩ := if_pos h
def lastC (s : ByteArray) : Int := if splitC s = 0 then if splitN s = [] then 4 else 0 else splitC s
def lastN (s : ByteArray) : List ByteArray := if lastC s = 0 then (splitN s).take ((splitN s).length - 1) else []
def lastT (s : ByteArray) : ByteArray := if lastC s = 0 then ((splitN s)[(splitN s).length - 1]?).getD ⟨#[]⟩ else ⟨#[]⟩
theorem last_c {s : ByteArray} (h : ¬ splitC s = 0) : lastC s = splitC s ∧ lastN s = [] ∧ lastT s = ⟨#[]⟩ := by
  have : lastC s = splitC s := if_neg h
  exact ⟨this, by rw [lastN, this, if_neg h], by rw [lastT, this, if_neg h]⟩
theorem last_4 {s : ByteArray} (h : splitC s = 0) (h2 : splitN s = []) : lastC s = 4 ∧ lastN s = [] ∧ lastT s = ⟨#[]⟩ := by
  have : lastC s = 4 := by rw [lastC, if_pos h, if_pos h2]
  exact ⟨this, by rw [lastN, this, if_neg (by decide)], by rw [lastT, this, if_neg (by decide)]⟩
theorem last_0 {s : ByteArray} (h : splitC s = 0) (h2 : ¬ splitN s = []) : lastC s = 0 ∧ lastN s = (splitN s).take ((splitN s).length - 1) ∧ ∀ (j : Nat) x, j = (splitN s).length - 1 → (splitN s)[j]? = some x → lastT s = x := by
  have : lastC s = 0 := by rw [lastC, if_pos h, if_neg h2]
  exact ⟨this, by rw [lastN, if_pos this], fun j x hj hx => by rw [lastT, if_pos this, ← hj, hx]; rfl⟩
theorem len_nil {α : Type} {xs : List α} : (xs.length : Int) = 0 ↔ xs = [] := by rw [← List.length_eq_zero_iff]; omega
theorem lastN_ok (s : ByteArray) : (lastN s).length ≤ 6 ∧ ∀ x, x ∈ lastN s → nameFault x = 0 := by
  have h := splitN_ok s
  unfold lastN
  split
  · exact ⟨by rw [List.length_take]; omega, fun x hx => h.2 x (List.mem_of_mem_take hx)⟩
  · simp
theorem lastT_size (s : ByteArray) : (lastT s).size ≤ 4 := by
  unfold lastT
  split
  · cases hx : (splitN s)[(splitN s).length - 1]? with
    | none => exact Nat.zero_le _
    | some x => exact (name_4 ((splitN_ok s).2 x (List.mem_of_getElem? hx))).1
  · exact Nat.zero_le _
def parentR (s : ByteArray) : RText := if lastC s = 0 then ⟨0, joinB (lastN s)⟩ else ⟨lastC s, ⟨#[]⟩⟩
theorem parentR_c {s : ByteArray} (h : ¬ lastC s = 0) : parentR s = ⟨lastC s, ⟨#[]⟩⟩ := if_neg h
theorem parentR_0 {s : ByteArray} (h : lastC s = 0) : parentR s = ⟨0, joinB (lastN s)⟩ := if_pos h
def lastR (s : ByteArray) : RText := if lastC s = 0 then ⟨0, lastT s⟩ else ⟨lastC s, ⟨#[]⟩⟩
theorem lastR_c {s : ByteArray} (h : ¬ lastC s = 0) : lastR s = ⟨lastC s, ⟨#[]⟩⟩ := if_neg h
theorem lastR_0 {s : ByteArray} (h : lastC s = 0) : lastR s = ⟨0, lastT s⟩ := if_pos h
theorem parentR_size (s : ByteArray) : (parentR s).text.size ≤ 140737488351232 := by
  unfold parentR
  split
  · have h := lastN_ok s
    have := joinB_size h.2
    show (joinB (lastN s)).size ≤ _
    omega
  · exact Nat.zero_le _
theorem lastR_size (s : ByteArray) : (lastR s).text.size ≤ 140737488351232 := by
  have := lastT_size s
  unfold lastR
  split
  · show (lastT s).size ≤ _; omega
  · exact Nat.zero_le _
theorem joinR_size (xs : List ByteArray) : (joinR xs).text.size ≤ 140737488351232 := by
  unfold joinR
  split
  · rename_i h
    have := joinB_size (namesOk h).2
    have := (namesOk h).1
    show (joinB xs).size ≤ _
    omega
  · exact Nat.zero_le _
def belowB (p t : ByteArray) : Bool := decide (splitC p = 0 ∧ splitC t = 0 ∧ (splitN t).length < (splitN p).length ∧ (splitN p).take (splitN t).length = splitN t)
theorem below_n {p t : ByteArray} (h : ¬ (splitC p = 0 ∧ splitC t = 0 ∧ (splitN t).length < (splitN p).length)) : belowB p t = false := decide_eq_false fun h2 => h ⟨h2.1, h2.2.1, h2.2.2.1⟩
theorem below_t {p t : ByteArray} (h1 : splitC p = 0) (h2 : splitC t = 0) (h3 : (splitN t).length < (splitN p).length) : belowB p t = decide ((splitN p).take (splitN t).length = splitN t) := by
  unfold belowB
  rw [decide_eq_decide]
  exact ⟨fun h => h.2.2.2, fun h => ⟨h1, h2, h3, h⟩⟩
theorem below_e {p t : ByteArray} (h1 : splitC p = 0) (h2 : splitC t = 0) (h3 : (splitN t).length < (splitN p).length) {k : Nat} (hk : (splitN t).length ≤ k) (ha : ∀ (j : Nat), j < k → (splitN p)[j]? = (splitN t)[j]? ∨ (splitN t).length ≤ j) : belowB p t = true := by
  rw [below_t h1 h2 h3, decide_eq_true_iff]
  apply List.ext_getElem?
  intro j
  rw [List.getElem?_take]
  split
  · rcases ha j (by omega) with h | h
    · exact h
    · omega
  · rw [List.getElem?_eq_none (by omega)]
theorem below_ne {p t : ByteArray} {j : Nat} {x y : ByteArray} (hx : (splitN p)[j]? = some x) (hy : (splitN t)[j]? = some y) (hn : ¬ x = y) : belowB p t = false := by
  refine decide_eq_false fun h => hn ?_
  have hj := (List.getElem?_eq_some_iff.1 hy).1
  have : ((splitN p).take (splitN t).length)[j]? = (splitN t)[j]? := by rw [h.2.2.2]
  rw [List.getElem?_take, if_pos hj, hx, hy] at this
  exact Option.some.inj this
theorem ext_size {s : ByteArray} {a b B : Nat} (h : s.size ≤ B) : (ByteArray.extract s a b).size ≤ B := by rw [ByteArray.size_extract]; omega
end Go.Proofs.Ytkmcpcahbfdohaa
/- What is proved: the library's contracts on strings, told of our kinds. No condition. -/
namespace Go.Proofs.Ytkmcpcahbfdohaa
open Go Go.RowKit
set_option linter.unusedVariables false
set_option linter.unusedSimpArgs false
theorem ws_nil (w0 : World) (S0 : Bs) : WS w0 S0 [] w0 := ⟨fun _ => False, trivial, fun _ h => h.elim, Fr.refl _ _⟩
theorem cell_spot {w : World} {a : Addr} {v : Value} (h : w.cell? a = some v) : a = ⟨a.block, a.off, none⟩ := by
  unfold World.cell? at h
  split at h
  · split at h
    · cases h
    · rename_i hs
      cases a with
      | mk b o s =>
        cases s with
        | none => rfl
        | some x => exact absurd rfl hs
  · cases h
theorem pre_0 (l : List UInt8) : Lib.hasPrefix l [47] = decide (l[0]? = some 47) := by
  cases l with
  | nil => simp [Lib.hasPrefix]
  | cons b l =>
    by_cases h : b = 47
    · subst h; simp [Lib.hasPrefix, List.isPrefixOf]
    · have h' : ¬ (47 : UInt8) = b := fun e => h e.symm
      simp [Lib.hasPrefix, List.isPrefixOf, h, h']
theorem suf_0 (s : ByteArray) : Lib.hasSuffix s.data.toList [47] = decide (s.data.toList[s.size - 1]? = some 47) := by
  rw [← str_len]
  generalize s.data.toList = l
  unfold Lib.hasSuffix
  rw [List.isSuffixOf, Bool.eq_iff_iff, decide_eq_true_iff]
  have e : l[l.length - 1]? = l.reverse[0]? := by
    cases hl : l with
    | nil => rfl
    | cons b t => rw [← hl, List.getElem?_reverse (by rw [hl]; simp)]; simp
  rw [e]
  cases l.reverse with
  | nil => simp [List.isPrefixOf]
  | cons b t =>
    by_cases h : b = 47
    · subst h; simp [List.isPrefixOf]
    · have h' : ¬ (47 : UInt8) = b := fun e => h e.symm
      simp [List.isPrefixOf, h, h']
theorem prefix_con {P : Program} {f : FuncId} {w0 : World} {S0 : Bs} {s : ByteArray}
    (h1 : ∀ (s p : ByteArray) (w : World), Calls P f #[.string s, .string p] w fun e w' => e = .returned (.bool (Lib.hasPrefix s.data.toList p.data.toList)) ∧ w' = w) :
    Calls P f #[.string s, .string ⟨#[47]⟩] w0 (TriPost w0 S0 (fun r l => r = .bool (decide (s.data.toList[0]? = some 47)) ∧ l = [])) :=
  (h1 s ⟨#[47]⟩ w0).mono fun e w' ⟨he, hw⟩ => by
    subst hw
    exact ⟨_, _, he, ⟨by rw [← pre_0], rfl⟩, ws_nil _ _⟩
theorem suffix_con {P : Program} {f : FuncId} {w0 : World} {S0 : Bs} {s : ByteArray} (hs : s.size ≤ 140737488351232)
    (h1 : ∀ (s p : ByteArray) (w : World), s.size ≤ 9223372036854775807 → Calls P f #[.string s, .string p] w fun e w' => e = .returned (.bool (Lib.hasSuffix s.data.toList p.data.toList)) ∧ w' = w) :
    Calls P f #[.string s, .string ⟨#[47]⟩] w0 (TriPost w0 S0 (fun r l => r = .bool (decide (s.data.toList[s.size - 1]? = some 47)) ∧ l = [])) :=
  (h1 s ⟨#[47]⟩ w0 (by omega)).mono fun e w' ⟨he, hw⟩ => by
    subst hw
    exact ⟨_, _, he, ⟨by rw [← suf_0], rfl⟩, ws_nil _ _⟩
def MaxL (g : Nat) (w : World) (F : Bs) : Prop := ∃ m : Int, PtrRo (kint .i64) w F ⟨g, 0, none⟩ m
theorem MaxL.tr {g : Nat} {w0 w : World} {S0 S1 : Bs} {lr : List Asn} (tr : Tr w0 S0 w S1 lr) (h : MaxL g w0 (FF w0 S0)) : MaxL g w (FF w S1) := h.imp fun _ h => tr.ctxP h
theorem MaxL.cell {g : Nat} {w : World} {F : Bs} (h : MaxL g w F) : ∃ m : Int, w.cell? ⟨g, 0, none⟩ = some (.int .i64 m) := by
  obtain ⟨m, ecs, hF, ⟨rfl, -⟩, hc⟩ := h
  exact ⟨m, by simpa [Addr.add] using hc 0 _ rfl⟩
theorem MaxL.of {g : Nat} {w : World} {F : Bs} (hF : F g) (h : ∃ m : Int, w.cell? ⟨g, 0, none⟩ = some (.int .i64 m)) : MaxL g w F := by
  obtain ⟨m, hm⟩ := h
  refine ⟨m, [.int .i64 m], hF, ⟨rfl, trivial⟩, fun i u hu => ?_⟩
  cases i with
  | zero => simp at hu; subst hu; simpa [Addr.add] using hm
  | succ i => simp at hu
theorem MaxL.ofc {g : Nat} {w : World} (h : ∃ m : Int, w.cell? ⟨g, 0, none⟩ = some (.int .i64 m)) : MaxL g w (FF w (fun _ => False)) := by
  refine MaxL.of ⟨?_, fun h => h⟩ h
  obtain ⟨m, hm⟩ := h
  unfold World.cell? at hm
  split at hm
  · rename_i c _ _ hh
    exact (Array.getElem?_eq_some_iff.1 hh).1
  · cases hm
theorem split_con {P : Program} {f : FuncId} {g t by_ : Nat} {w0 : World} {S0 : Bs} {s : ByteArray} (hs : s.size ≤ 1000) (hb : by_ ≤ 1000) (hG : MaxL g w0 (FF w0 S0))
    (h1 : ∀ (s sep : ByteArray) (m : Int) (w : World), s.size < 4294967281 → w.cell? ⟨g, 0, none⟩ = some (.int .i64 m) → 1 ≤ sep.size → Calls P f #[.string s, .string sep] w fun e w' =>
      e = .returned (.slice (some ⟨w.heap.size, 0, none⟩) (Lib.countB s sep + 1) (Lib.countB s sep + 1)) ∧ w' = w.alloc (.cells ((Lib.splitB sep 0 (Lib.countB s sep) s).map Value.string).toArray t)) :
    Calls P f #[.string s, .string ⟨#[47]⟩] w0 (TriPost w0 S0 (fun r l => l = [ownA (kslice t by_ kstr) (cutB s) [r]])) := by
  obtain ⟨m, hm⟩ := hG.cell
  refine (h1 s ⟨#[47]⟩ m w0 (by omega) hm (by decide)).mono fun e w' ⟨he, hw⟩ => ?_
  have hl := Lib.splitB_all (⟨#[47]⟩ : ByteArray) (by decide) 0 _ s rfl
  have hc := splitB_cut s
  rw [hc] at hw hl
  rw [← hl] at he
  subst hw
  have h0 := (ws_nil w0 S0).new ((cutB s).map Value.string).toArray t 1 (cutB s).length (by simp)
  obtain ⟨S, hst, hbs, hf⟩ := h0
  have hlen : (cutB s).length ≤ 1001 := by
    have := cutL_len s.data.toList
    rw [str_len] at this
    unfold cutB
    rw [List.length_map]
    omega
  have hbig : (cutB s).length * by_ ≤ 1001 * 1000 := Nat.mul_le_mul hlen hb
  exact ⟨_, _, he, rfl, S, Star.one (c := ownA (kslice t by_ kstr) (cutB s) _) (lit_own (xs := cutB s) (by simpa using hst) rfl (fun x hx => by have := cutB_size hx; omega) (by omega) (by omega)), hbs, hf⟩
theorem join_con {P : Program} {f : FuncId} {t by_ : Nat} {w0 : World} {S0 : Bs} {xs : List ByteArray} {v : Value} (hx : (kslice t by_ kstr).ro w0 (FF w0 S0) xs [v]) (hok : ∀ s, s ∈ xs → nameFault s = 0) (hl : xs.length ≤ 6)
    (h0 : ∀ (a : Option Addr) (c : Nat) (sep : ByteArray) (w : World), Calls P f #[.slice a 0 c, .string sep] w fun e w' => e = .returned (.string ⟨#[]⟩) ∧ w' = w)
    (h1 : ∀ (bk o c : Nat) (xs : List ByteArray) (sep : ByteArray) (w : World), (∀ (j : Nat) x, xs[j]? = some x → w.cell? ⟨bk, o + j, none⟩ = some (.string x)) → bk < w.heap.size → xs.length ≤ 140737488355328 → xs.length ≤ c → (Lib.join (xs.map (·.data.toList)) sep.data.toList).length ≤ 140737488355328 →
      Calls P f #[.slice (some ⟨bk, o, none⟩) xs.length c, .string sep] w fun e w' => e = .returned (.string ⟨(Lib.join (xs.map (·.data.toList)) sep.data.toList).toArray⟩) ∧ Below w.heap.size w w') :
    Calls P f #[v, .string ⟨#[47]⟩] w0 (TriPost w0 S0 (fun r l => r = .string (bstr (Lib.join (xs.map (·.data.toList)) [47])) ∧ l = [])) := by
  obtain ⟨A, c, rfl, g1, g2, g3, g4⟩ := ro_form hx
  cases hxs : xs with
  | nil =>
    refine (h0 A c ⟨#[47]⟩ w0).mono fun e w' ⟨he, hw⟩ => ?_
    subst hw
    exact ⟨_, _, he, ⟨by simp [Lib.join, bstr], rfl⟩, ws_nil _ _⟩
  | cons y r =>
    rw [← hxs]
    obtain ⟨ad, rfl, hF, hc⟩ := g4 (by rw [hxs]; simp)
    have hcell : ∀ (j : Nat) x, xs[j]? = some x → w0.cell? (ad.add j) = some (.string x) := fun j x hx => by
      obtain ⟨ecs, ⟨rfl, -⟩, h⟩ := hc j x hx
      have := h 0 _ rfl
      simpa [kstr, kscalar] using this
    have h00 : w0.cell? ad = some (.string y) := by simpa [Addr.add] using hcell 0 y (by rw [hxs]; rfl)
    have e := cell_spot h00
    have hjl : (Lib.join (xs.map (·.data.toList)) [47]).length ≤ 140737488355328 := by
      have h2 := join_eq xs
      have h3 := joinB_size hok
      have h4 := congrArg ByteArray.size h2
      rw [ByteArray.size_append] at h4
      have h5 : (bstr (Lib.join (xs.map (·.data.toList)) [47])).size = (Lib.join (xs.map (·.data.toList)) [47]).length := by simp [bstr, ByteArray.size]
      omega
    have hlt : ad.block < w0.heap.size := hF.1
    have key := h1 ad.block ad.off c xs ⟨#[47]⟩ w0 (fun j x hx => by
      have := hcell j x hx
      rw [e] at this
      unfold Addr.add at this
      split at this
      · rename_i h; subst h; simpa using this
      · simpa using this) hlt (by omega) g1 hjl
    rw [e]
    refine key.mono fun e' w' ⟨he, hw⟩ => ⟨_, _, he, ⟨rfl, rfl⟩, fun _ => False, trivial, fun _ h => h.elim, Fr.of_below hw _⟩
end Go.Proofs.Ytkmcpcahbfdohaa
/- What is proved: what a function owns, from some point on only read: a new base of its frame. No condition. -/
namespace Go.Proofs.Ytkmcpcahbfdohaa
open Go Go.RowKit
set_option linter.unusedVariables false
section
variable {N : Nat} {w0 : World} {S0 : Bs} {F : Act → World → Prop} {T : Slots} {l : List Asn} {P : Program}
theorem FJ.freeze {α : Type} {K : Kd α} {x : α} {cs : List Value} {l' : List Asn} (h : Take l (ownA K x cs) l')
    (k : ∀ (w1 : World) (S1 : Bs), (∀ {β : Type} {J : Kd β} {y : β} {ds : List Value}, J.ro w0 (FF w0 S0) y ds → J.ro w1 (FF w1 S1) y ds) → K.ro w1 (FF w1 S1) x cs → (∀ l w, WS w1 S1 l w → WS w0 S0 l w) → FJ N w1 S1 F T l') : FJ N w0 S0 F T l := by
  intro a w h1 h2 h3 h4
  obtain ⟨S, hs, hb, hf⟩ := h4.take h
  obtain ⟨A, B, hc, hl, iA, iB, d⟩ := hs
  have hc' := K.own_lt (show K.own w A x cs from hc)
  have hsub : ∀ b, FF w0 S0 b → FF w B b ∧ w.heap[b]? = w0.heap[b]? := fun b hF =>
    ⟨⟨Nat.lt_of_lt_of_le hF.1 hf.size, fun hB => (hb b (iB b hB)).elim hF.2 (fun h => absurd hF.1 (by omega))⟩, hf.block b hF.1 hF.2⟩
  refine k w B (fun {β} {J} {y} {ds} hr => J.ro_up (J.ro_loc hr fun b hF => (hsub b hF).2) fun b hF => (hsub b hF).1)
    (K.ro_up (K.own_ro hc') fun b hA => ⟨hA.2, fun hB => d b hA.1 hB⟩) (fun m w' hw => ?_) a w h1 h2 h3 ⟨B, hl, fun b hB => .inl hB, Fr.refl _ _⟩
  obtain ⟨S2, s1, s2, s3⟩ := hw
  exact ⟨S2, s1, fun b hS => (s2 b hS).elim (fun hB => hb b (iB b hB)) (fun hle => .inr (Nat.le_trans hf.size hle)), hf.trans s3 fun b hB => hb b (iB b hB)⟩
theorem FJ.upR {w1 : World} {S1 : Bs} {fn : Func} {R : Value → List Asn → Prop} (hup : ∀ l w, WS w1 S1 l w → WS w0 S0 l w) (k : FJ N w1 S1 (bodyPost P fn (TriPost w1 S1 R) .ret) T l) : FJ N w1 S1 (bodyPost P fn (TriPost w0 S0 R) .ret) T l := fun a w h1 h2 h3 h4 => by
  obtain ⟨hd, v, hr, r, m, he, hR, hw⟩ := k a w h1 h2 h3 h4
  exact ⟨hd, v, hr, r, m, he, hR, hup _ _ hw⟩
end
end Go.Proofs.Ytkmcpcahbfdohaa
/- What is proved: who has no key to a block changes nothing of it: plain Lean. No condition. -/
namespace Go.Proofs.Ytkmcpcahbfdohaa
open Go
set_option linter.unusedVariables false
set_option linter.unusedSimpArgs false
theorem keepN_ok {all : Bool} {ks : List Bool} {ps : List DPut} {bs : List (List Int)} (hb : ∀ b, b ∈ bs → wordsFault b = 0) (hp : ∀ p, p ∈ ps → wordsFault p.words = 0) : ∀ k b, b ∈ keepN all ks ps bs k → wordsFault b = 0
  | 0, b, h => hb b h
  | k + 1, b, h => by
    unfold keepN at h
    split at h
    · rename_i p hpk
      split at h
      · rcases List.mem_or_eq_of_mem_set h with h | rfl
        · exact keepN_ok hb hp k b h
        · exact hp p (List.mem_of_getElem? hpk)
      · exact keepN_ok hb hp k b h
    · exact keepN_ok hb hp k b h
theorem put_ok {d : DDisk} {a : Int} {ws : List Int} (h : diskFault d = 0) (hp : placeIn d.blocks.length a) (hw : wordsFault ws = 0) (hc : ¬ 200 ≤ d.cache.length) : diskFault (⟨d.blocks, d.cache ++ [⟨a, ws⟩]⟩ : DDisk) = 0 := by
  obtain ⟨h1, h2, h3, h4⟩ := diskOk h
  refine diskFault_0 (by simp only; omega) (by simp only [List.length_append, List.length_cons, List.length_nil]; omega) (fun j y _ hy => h3 y (List.mem_of_getElem? hy)) (fun j y _ hy => ?_)
  have hy := List.mem_of_getElem? hy
  simp only [List.mem_append, List.mem_singleton] at hy
  rcases hy with hy | rfl
  · have := h4 y hy
    unfold putFault
    rw [if_pos this.1]; exact this.2
  · unfold putFault
    rw [if_pos hp]; exact hw
theorem blockL_put {d : DDisk} {a i : Int} {ws : List Int} : blockL (⟨d.blocks, d.cache ++ [⟨a, ws⟩]⟩ : DDisk) i = if a = i then ws else blockL d i := by
  unfold blockL
  by_cases h : a = i
  · simp [List.find?, h]
  · have : (a == i) = false := by simpa using h
    simp [List.find?, this, h]
theorem kf_of {d e : DDisk} {es : List DExt} (h : kernFault ⟨d, es⟩ = 0) (he : diskFault e = 0) (hl : e.blocks.length = d.blocks.length) : kernFault ⟨e, es⟩ = 0 := by
  obtain ⟨k1, k2, k3, k4⟩ := kernOk h
  have k2' : es.length ≤ 8 := k2
  rw [kernFault_e (k := ⟨d, es⟩) k1 (by show ¬ (8 : Int) < (es.length : Int); omega)] at h
  rw [kernFault_e (k := ⟨e, es⟩) he (by show ¬ (8 : Int) < (es.length : Int); omega)]
  show extsFault e.blocks.length 0 es = 0
  rw [hl]; exact h
theorem keys_law {k : DKern} {key a : Int} {ws : List Int} :
    (¬ (ownerOf k a).code = 0 → (writeKern k key a ws).code = (ownerOf k a).code ∧ (readKern k key a).code = (ownerOf k a).code) ∧
    ((ownerOf k a).code = 0 → ¬ (ownerOf k a).val = key → (writeKern k key a ws).code = 6 ∧ (readKern k key a).code = 6) ∧
    ((ownerOf k a).code = 0 → (ownerOf k a).val = key → (readKern k key a).code = 0 ∧ (readKern k key a).words = (blockAt k.disk a).list) ∧
    ((ownerOf k a).code = 0 → (ownerOf k a).val = key → (writeKern k key a ws).code = 0 → (flushKern (writeKern k key a ws).kern key).code = 0 ∧
      (∀ i : Nat, (i : Int) < k.disk.blocks.length → ¬ (i : Int) = a → (blockAt (flushKern (writeKern k key a ws).kern key).kern.disk i).list = (blockAt k.disk i).list) ∧
      (blockAt (flushKern (writeKern k key a ws).kern key).kern.disk a).list = ws ∧ kernFault (flushKern (writeKern k key a ws).kern key).kern = 0) := by
  refine ⟨fun h => ?_, fun h h2 => ?_, fun h h2 => ?_, fun h h2 h3 => ?_⟩
  · have hm := mayFault_n (key := key) h
    have hn : ¬ mayFault k key a = 0 := by rw [hm]; exact h
    rw [writeKern_f hn, readKern_f hn, hm]
    exact ⟨rfl, rfl⟩
  · have hm := mayFault_6 h h2
    have hn : ¬ mayFault k key a = 0 := by rw [hm]; decide
    rw [writeKern_f hn, readKern_f hn, hm]
    exact ⟨rfl, rfl⟩
  · have hm := mayFault_0 h h2
    obtain ⟨o1, o2⟩ := own_in h
    rw [readKern_0 hm, blockAt_1 (kernOk o1).1 o2]
    exact ⟨rfl, rfl⟩
  · have hm := mayFault_0 h h2
    obtain ⟨o1, o2⟩ := own_in h
    have hd := (kernOk o1).1
    have hp0 : (putBlock k.disk a ws).code = 0 := by
      by_cases hp : (putBlock k.disk a ws).code = 0
      · exact hp
      · rw [writeKern_p hm hp] at h3; exact h3
    have hw : wordsFault ws = 0 := by
      by_cases hw : wordsFault ws = 0
      · exact hw
      · rw [putBlock_w hd o2 hw] at hp0; exact hp0
    have hc : ¬ 200 ≤ k.disk.cache.length := fun hc => by rw [putBlock_2 hd o2 hw hc] at hp0; exact absurd hp0 (by decide)
    have hpd := put_ok hd o2 hw hc
    rw [writeKern_0 hm hp0, putBlock_0 hd o2 hw hc]
    have hkf : kernFault (⟨⟨k.disk.blocks, k.disk.cache ++ [⟨a, ws⟩]⟩, k.exts⟩ : DKern) = 0 := kf_of (d := k.disk) o1 hpd rfl
    have hkey : hasKey key k.exts = true := by
      by_cases h0 : ownKey a k.exts = 0
      · rw [ownerOf_4 o1 o2 h0] at h; exact absurd h (by decide)
      · rw [ownerOf_0 o1 o2 h0] at h2
        have h2' : ownKey a k.exts = key := h2
        unfold ownKey at h2' h0
        split at h2'
        · rename_i e he
          unfold hasKey
          rw [List.any_eq_true]
          exact ⟨e, List.mem_of_find?_eq_some he, decide_eq_true h2'⟩
        · rename_i he
          rw [he] at h0
          exact absurd rfl h0
    rw [flushKern_0 hkf hkey]
    obtain ⟨q1, q2, q3, q4⟩ := diskOk hpd
    obtain ⟨B, hB⟩ : ∃ B, keepN true [] (k.disk.cache ++ [⟨a, ws⟩]) k.disk.blocks (k.disk.cache ++ [(⟨a, ws⟩ : DPut)]).length = B := ⟨_, rfl⟩
    have hBl : B.length = k.disk.blocks.length := by rw [← hB, keepN_len]
    have hBd : diskFault (⟨B, []⟩ : DDisk) = 0 := by
      refine diskFault_0 (by show ¬ (60 : Int) < (B.length : Int); have := (diskOk hd).1; omega) (by simp) (fun j y _ hy => ?_) (fun j y _ hy => by simp at hy)
      have hy' : y ∈ keepN true [] (k.disk.cache ++ [⟨a, ws⟩]) k.disk.blocks (k.disk.cache ++ [(⟨a, ws⟩ : DPut)]).length := by rw [hB]; exact List.mem_of_getElem? hy
      exact keepN_ok q3 (fun p hp => (q4 p hp).2) _ y hy'
    simp only [hB]
    have hbl : ∀ i : Nat, i < k.disk.blocks.length → blockL (⟨B, []⟩ : DDisk) (i : Int) = blockL (⟨k.disk.blocks, k.disk.cache ++ [⟨a, ws⟩]⟩ : DDisk) (i : Int) := fun i hi => by
      have hx : B[i]? = some (B[i]'(by omega)) := List.getElem?_eq_getElem (by omega)
      rw [blockL_last (d := (⟨k.disk.blocks, k.disk.cache ++ [(⟨a, ws⟩ : DPut)]⟩ : DDisk)) hpd hi (x := B[i]'(by omega)) (by show (keepN true [] (k.disk.cache ++ [⟨a, ws⟩]) k.disk.blocks (k.disk.cache ++ [(⟨a, ws⟩ : DPut)]).length)[i]? = _; rw [hB]; exact hx)]
      unfold blockL
      simp [List.getD_eq_getElem?_getD, hx]
    have hat : ∀ i : Nat, i < k.disk.blocks.length → (blockAt (⟨B, []⟩ : DDisk) i).list = if a = i then ws else blockL k.disk i := fun i hi => by
      rw [blockAt_1 hBd (by show placeIn B.length i; rw [hBl]; unfold placeIn; omega)]
      dsimp only
      rw [hbl i hi, blockL_put]
    refine ⟨trivial, fun i hi hn => ?_, ?_, kf_of (d := k.disk) o1 hBd hBl⟩
    · rw [hat i (by omega), if_neg (fun e => hn e.symm), blockAt_1 hd (by unfold placeIn; omega)]
    · have ha : placeIn k.disk.blocks.length a := o2
      unfold placeIn at ha
      have := hat a.toNat (by omega)
      rw [show ((a.toNat : Nat) : Int) = a by omega, if_pos rfl] at this
      exact this
end Go.Proofs.Ytkmcpcahbfdohaa

/- What is proved: operations that read and write memory, as rules of the small logic of Core. No condition. -/
import Derived.Test.YtbcdcakcmdcafaaGreatOps
namespace Go.Proofs.YtbcdcakcmdcafaaGreat
open Go Go.RowKit
set_option linter.unusedVariables false
set_option linter.unusedSimpArgs false

def aggB (d : TypeDesc) : Bool := match d with | .struct _ | .array _ _ => true | _ => false
theorem run_isAgg {P : Program} {t : TypeId} {d : TypeDesc} (h : P.underlying t = some d) (w : World) : (isAgg t).run P w = .ok (aggB d) w := by
  unfold isAgg
  rw [Sem.run_bind, run_underlying h w]
  cases d <;> simp [aggB]
def AggIs (P : Program) (t : TypeId) (b : Bool) : Prop := (P.underlying t).map aggB = some b
theorem AggIs.ex {P : Program} {t : TypeId} {b : Bool} (h : AggIs P t b) : ∃ d, P.underlying t = some d ∧ aggB d = b := Option.map_eq_some_iff.1 h
def fsOf (P : Program) (t : TypeId) : Array Field := match P.underlying t with | some (.struct fs) => fs | _ => #[]
theorem add_plain' (g j : Nat) : (⟨g, 0, none⟩ : Addr).add j = ⟨g, j, none⟩ := by unfold Addr.add; split <;> simp_all
def cellA (g t : Nat) (vs : List Value) : Asn := rowA g t vs.length 1 vs

section
variable {P : Program} {T : Slots} {Wd : World → Prop} {o : Oper} {N : Nat} {w0 : World} {S0 : Bs} {l l' lk : List Asn}

theorem row_cell {w : World} {S : Bs} {g e sz c : Nat} {fl : List Value} {i : Nat} {v : Value} (h : (rowA g e sz c fl).p w S) (hv : fl[i]? = some v) : w.cell? ⟨g, i, none⟩ = some v := by
  obtain ⟨_, cur, h1, h2, h3, h4⟩ := h
  rw [cell_of_row w g i cur e (0, 0) h1]
  rw [← h4, List.getElem?_take] at hv
  split at hv
  · simpa using hv
  · cases hv
theorem WS.row {g e sz c : Nat} {fl : List Value} {i : Nat} {v : Value} (ht : Take l (rowA g e sz c fl) l') (hv : fl[i]? = some v) : ∀ w, WS w0 S0 l w → w.cell? ((⟨g, 0, none⟩ : Addr).add i) = some v := fun w hw => by
  obtain ⟨S, hs, _, _⟩ := hw.take ht
  rw [add_plain']
  exact row_cell hs.head hv
theorem WS.rows {g e sz c : Nat} {fl cs : List Value} {off : Nat} (ht : Take l (rowA g e sz c fl) l') (hv : ∀ i u, cs[i]? = some u → fl[off + i]? = some u) : ∀ w, WS w0 S0 l w → ∀ i u, cs[i]? = some u → w.cell? (((⟨g, 0, none⟩ : Addr).add off).add i) = some u := fun w hw i u hu => by
  rw [add_add]
  exact WS.row ht (hv i u hu) w hw
theorem WS.ctx {ad : Addr} {v : Value} (hF : FF w0 S0 ad.block) (hc : w0.cell? ad = some v) : ∀ w, WS w0 S0 l w → w.cell? ad = some v := fun w hw => by
  obtain ⟨S, _, _, hf⟩ := hw
  exact (cell_loc (hf.block _ hF.1 hF.2)).trans hc
theorem WS.ctxs {ad : Addr} {cs : List Value} (hF : FF w0 S0 ad.block) (hc : ∀ i u, cs[i]? = some u → w0.cell? (ad.add i) = some u) : ∀ w, WS w0 S0 l w → ∀ i u, cs[i]? = some u → w.cell? (ad.add i) = some u :=
  fun w hw i u hu => WS.ctx (by rw [add_block]; exact hF) (hc i u hu) w hw

theorem q_load {x : Operand} {t : TypeId} {ad : Addr} {v : Value} (ho : o.op = .load t x) (hg : AggIs P t false) (hx : Val T x (.pointer (some ad))) (hc : ∀ w, Wd w → w.cell? ad = some v) : Quiet P o T Wd v := fun a w ha hw => by
  obtain ⟨d, ht, hd⟩ := hg.ex
  have hag := run_isAgg ht w
  rw [hd] at hag
  simp only [execOp, ho, hx a ha]
  simp [Instr.loadAt, Instr.sureAddr, loadVar, Sem.run_bind, hag, load, Sem.run, hc w hw]
theorem q_loadA {x : Operand} {t : TypeId} {ad : Addr} {cs : List Value} (ho : o.op = .load t x) (hg : AggIs P t true) (hi : (P.info? t).map (·.size) = some cs.length) (hx : Val T x (.pointer (some ad)))
    (hc : ∀ w, Wd w → ∀ i u, cs[i]? = some u → w.cell? (ad.add i) = some u) : Quiet P o T Wd (.agg cs.toArray) := fun a w ha hw => by
  obtain ⟨d, ht, hd⟩ := hg.ex
  have hag := run_isAgg ht w
  rw [hd] at hag
  obtain ⟨i0, h1, h2⟩ := Option.map_eq_some_iff.1 hi
  have hl := run_loadCells_list (P := P) w ad cs (hc w hw)
  simp only [execOp, ho, hx a ha]
  simp [Instr.loadAt, Instr.sureAddr, loadVar, Sem.run_bind, hag, sizeOf, typeInfo, h1, h2, hl]

/-! ### a store -/
inductive Set1 : List Value → Nat → Value → List Value → Prop
  | z {u v : Value} {l : List Value} : Set1 (u :: l) 0 v (v :: l)
  | s {u v : Value} {l l' : List Value} {n : Nat} : Set1 l n v l' → Set1 (u :: l) (n + 1) v (u :: l')
inductive PutN : List Value → Nat → List Value → List Value → Prop
  | n {l : List Value} {i : Nat} : PutN l i [] l
  | c {l l1 l2 : List Value} {i : Nat} {v : Value} {vs : List Value} : Set1 l i v l1 → PutN l1 (i + 1) vs l2 → PutN l i (v :: vs) l2
theorem Set1.eq {l : List Value} {n : Nat} {v : Value} {l' : List Value} (h : Set1 l n v l') : l' = l.set n v ∧ n < l.length := by
  induction h with
  | z => simp
  | s _ ih => obtain ⟨rfl, h⟩ := ih; simp [h]
def putAt (fl : List Value) (off : Nat) (cs : List Value) : List Value := fl.take off ++ cs ++ fl.drop (off + cs.length)
theorem putAt_len {fl : List Value} {off : Nat} {cs : List Value} (h : off + cs.length ≤ fl.length) : (putAt fl off cs).length = fl.length := by
  simp only [putAt, List.length_append, List.length_take, List.length_drop]; omega
theorem take_put {L cs : List Value} {off n : Nat} (h1 : off + cs.length ≤ n) (h2 : n ≤ L.length) : (L.take off ++ cs ++ L.drop (off + cs.length)).take n = putAt (L.take n) off cs := by
  have hA : (L.take off ++ cs).length = off + cs.length := by simp; omega
  unfold putAt
  rw [List.take_append, List.take_of_length_le (by omega), hA, List.take_take, Nat.min_eq_left (by omega), List.drop_take]
theorem PutN.eq {l : List Value} {n : Nat} {vs l' : List Value} (h : PutN l n vs l') (hb : n + vs.length ≤ l.length) : l' = putAt l n vs := by
  induction h with
  | n => simp [putAt]
  | @c l l1 l2 i v vs h1 h2 ih =>
    obtain ⟨rfl, hi⟩ := h1.eq
    rw [ih (by simp at hb ⊢; omega)]
    simp only [putAt, List.length_cons]
    apply List.ext_getElem?
    intro j
    by_cases hj : j < i
    · simp [List.getElem?_append, List.getElem?_take, hj, Nat.ne_of_gt hj, Nat.min_def, show i ≤ l.length by omega, show i + 1 ≤ l.length by omega, show j < i + 1 by omega]
    · simp only [List.getElem?_append, List.length_append, List.length_take, List.length_set, List.length_cons, Nat.min_def, show i ≤ l.length by omega, show i + 1 ≤ l.length by omega, if_true]
      by_cases hj2 : j = i
      · subst hj2
        simp [List.getElem?_take, show j < j + 1 + vs.length by omega, show j < l.length from hi]
      · have e1 : ¬ j < i + 1 := by omega
        by_cases hj3 : j < i + 1 + vs.length
        · have e2 : j < i + (vs.length + 1) := by omega
          simp only [hj3, e1, e2, hj, if_true, if_false]
          obtain ⟨q, rfl⟩ : ∃ q, j = i + 1 + q := ⟨j - (i + 1), by omega⟩
          simp [show i + 1 + q - (i + 1) = q by omega, show i + 1 + q - i = q + 1 by omega]
        · have e2 : ¬ j < i + (vs.length + 1) := by omega
          simp only [hj3, e2, if_false, List.getElem?_drop]
          rw [List.getElem?_set_ne (by omega)]
          congr 1
          omega
theorem WS.set {g e sz c : Nat} {fl fl' : List Value} {w : World} {cur' : Array Value} (hw : WS w0 S0 (rowA g e sz c fl :: l) w) (hs : cur'.size = c * sz) (hle : fl'.length ≤ cur'.size) (ht : cur'.toList.take fl'.length = fl') : WS w0 S0 (rowA g e sz c fl' :: l) (w.setRow g cur') := by
  obtain ⟨S, ⟨A, B, ⟨hg, cur, h1, h2, h3, h4⟩, hl, a, b, d⟩, hb, hf⟩ := hw
  have hne : ∀ k, k ≠ g → (w.setRow g cur').heap[k]? = w.heap[k]? := fun k hk => setRow_other w g k cur' hk
  refine ⟨S, ⟨A, B, ⟨hg, cur', setRow_heap w g cur cur' e _ h1, hs, hle, ht⟩, hl.loc (fun x hx => hne x (fun e => d g hg (e ▸ hx))), a, b, d⟩, hb, ?_⟩
  refine ⟨hf.os, hf.tape, hf.output, by rw [size_setRow]; exact hf.size, fun k hk hn => ?_⟩
  rw [hne k (fun e => ?_)]
  · exact hf.block k hk hn
  · subst e
    rcases hb _ (a _ hg) with h | h
    · exact hn h
    · omega
theorem ones {cs : List Value} (h : cs.all (·.oneCell') = true) : ∀ u, u ∈ cs → u.oneCell' = true := fun u hu => List.all_eq_true.1 h u hu
theorem es_store {p x : Operand} {t : TypeId} {v : Value} {cs : List Value} {g e sz c off : Nat} {fl fl' : List Value} (ho : o.op = .store t p x) (hi : (P.info? t).map (·.size) = some cs.length) (hp : Val T p (.pointer (some ((⟨g, 0, none⟩ : Addr).add off)))) (hx : Val T x v) (hv : v.cells.toList = cs)
    (h1 : ∀ u, u ∈ cs → u.oneCell' = true) (hT : Take l (rowA g e sz c fl) l') (hb : off + cs.length ≤ fl.length) (hq : PutN fl off cs fl') : EffS P o T w0 S0 l (rowA g e sz c fl' :: l') := by
  intro a w ha hw
  obtain rfl := hq.eq hb
  have hw' := hw.take hT
  have hw2 := hw'
  obtain ⟨S, ⟨A, B, ⟨hg, cur, g1, g2, g3, g4⟩, hl, _, _, _⟩, _, _⟩ := hw'
  obtain ⟨i0, k1, k2⟩ := Option.map_eq_some_iff.1 hi
  have hst := run_storeCells_at P g off e cs 0 cur w g1 (by omega) h1
  refine ⟨w.setRow g (cur.toList.take off ++ cs ++ cur.toList.drop (off + cs.length)).toArray, ?_, ?_⟩
  · have hsz : v.cells.size = i0.size := by rw [k2, ← hv, Array.length_toList]
    simp only [execOp, ho, hp a ha, hx a ha]
    simp only [Nat.add_zero] at hst
    rw [add_plain']
    simp [Instr.storeAt, Instr.sureAddr, storeVar, sizeOf, typeInfo, k1, hsz, hv, hst]
  · refine WS.set hw2 ?_ ?_ ?_
    · simp only [List.size_toArray, List.length_append, List.length_take, List.length_drop, Array.length_toList]; omega
    · rw [putAt_len hb]; simp only [List.size_toArray, List.length_append, List.length_take, List.length_drop, Array.length_toList]; omega
    · have := take_put (L := cur.toList) (cs := cs) (off := off) (n := fl.length) hb (by rw [Array.length_toList]; exact g3)
      rw [g4] at this
      rw [putAt_len hb]
      exact this

/-! ### new blocks -/
theorem WS.new {w : World} (cells : Array Value) (t sz c : Nat) (hsz : cells.size = c * sz) (hw : WS w0 S0 l w) : WS w0 S0 (rowA w.heap.size t sz c cells.toList :: l) (w.alloc (.cells cells t)) := by
  obtain ⟨S, hs, hb, hf⟩ := hw
  have hs' := hs.lt
  refine ⟨fun x => S x ∨ x = w.heap.size, ⟨fun x => x = w.heap.size, fun x => S x ∧ x < w.heap.size, ⟨rfl, cells, heap_alloc_new w _, hsz, by simp, by rw [Array.length_toList, ← Array.length_toList, List.take_length]⟩, hs'.loc (fun x hx => Below.heap_alloc w _ x hx.2), fun _ h => .inr h, fun _ h => .inl h.1, fun x hx hy => by subst hx; exact Nat.lt_irrefl _ hy.2⟩, ?_, ?_⟩
  · rintro x (h | rfl)
    · exact hb x h
    · exact .inr hf.size
  · exact ⟨hf.os, hf.tape, hf.output, Nat.le_trans hf.size (by simp), fun b hb' hn => (Below.heap_alloc w _ b (Nat.lt_of_lt_of_le hb' hf.size)).trans (hf.block b hb' hn)⟩
theorem e_box {x : Operand} {t : TypeId} {v : Value} {cs : List Value} {n : Nat} (ho : o.op = .box t x) (hx : Val T x v) (hv : v.cells.toList = cs) (hn : cs.length = n) : Eff P o T w0 S0 l (fun r l' => ∃ g, r = .pointer (some ⟨g, 0, none⟩) ∧ l' = rowA g t n 1 cs :: l) := by
  intro a w ha hw
  subst hv
  refine ⟨.pointer (some ⟨w.heap.size, 0, none⟩), w.alloc (.cells v.cells t), _, ?_, ⟨_, rfl, rfl⟩, hw.new v.cells t n 1 (by rw [← hn, Array.length_toList]; omega)⟩
  simp only [execOp, ho, hx a ha]
  simp [Instr.box, newVar, newRow]
theorem e_alloc {t : TypeId} {z : Value} {cs : List Value} {n : Nat} (ho : o.op = .alloc t) (hz : (P.info? t).map (·.zero) = some (some z)) (hv : z.cells.toList = cs) (hn : cs.length = n) : Eff P o T w0 S0 l (fun r l' => ∃ g, r = .pointer (some ⟨g, 0, none⟩) ∧ l' = rowA g t n 1 cs :: l) := by
  intro a w ha hw
  subst hv
  obtain ⟨i0, h1, h2⟩ := Option.map_eq_some_iff.1 hz
  refine ⟨.pointer (some ⟨w.heap.size, 0, none⟩), w.alloc (.cells z.cells t), _, ?_, ⟨_, rfl, rfl⟩, hw.new z.cells t n 1 (by rw [← hn, Array.length_toList]; omega)⟩
  simp only [execOp, ho]
  simp [Instr.alloc, zeroValue, typeInfo, h1, h2, newVar, newRow]
theorem e_buildSlice {t e : TypeId} {len sz : Nat} {parts : Array (Nat × Operand)} {ps : List (Nat × Value)} {z : Value} {cs : List Value} (ho : o.op = .buildSlice t len parts) (ht : P.underlying t = some (.slice e)) (he : (P.info? e).map (fun i => (i.size, i.zero)) = some (sz, some z)) (hlen : len * sz ≤ 16777216)
    (hps : ∀ a : Act, Holds T a → (parts.map fun (i, x) => (i, a.eval x)) = ps.toArray) (hfill : Instr.fill (fun i => some (i * sz, sz)) ((Array.range (len * sz)).map ((if len * sz = 0 then #[] else z.cells)[· % (if len * sz = 0 then #[] else z.cells).size]!)) ps = some cs.toArray) (hcs : cs.length = len * sz) :
    Eff P o T w0 S0 l (fun r l' => ∃ g, r = .slice (some ⟨g, 0, none⟩) len len ∧ l' = rowA g e sz len cs :: l) := by
  intro a w ha hw
  obtain ⟨i0, h1, h2⟩ := Option.map_eq_some_iff.1 he
  obtain ⟨h2, h3⟩ := Prod.mk.inj h2
  refine ⟨.slice (some ⟨w.heap.size, 0, none⟩) len len, w.alloc (.cells cs.toArray e), _, ?_, ⟨_, rfl, rfl⟩, hw.new cs.toArray e sz len (by simpa using hcs)⟩
  simp only [execOp, ho]
  have hp := hps a ha
  have hl : ¬ (16777216 < len * i0.size) := by rw [h2]; omega
  by_cases h0 : len * sz = 0
  · rw [if_pos h0] at hfill
    simp [Instr.buildSlice, run_underlying ht, sizeOf, typeInfo, h1, h2, h3, hp, h0, newRow] at hfill ⊢
    simp [hfill]
  · rw [if_neg h0] at hfill
    simp [Instr.buildSlice, run_underlying ht, sizeOf, typeInfo, zeroValue, h1, h2, h3, hp, h0, newRow, show ¬ 16777216 < len * sz by omega] at hfill ⊢
    simp [hfill]
def BuildOk (P : Program) (t : TypeId) (z : Value) (places : Array (Nat × Nat)) : Prop := P.underlying t = some (.struct (fsOf P t)) ∧ (P.info? t).map (·.zero) = some (some z) ∧ ∀ w, ((fsOf P t).mapM (m := Sem) fun f => do pure (f.offset, ← sizeOf f.type)).run P w = .ok places w
theorem q_build {t : TypeId} {parts : Array (Nat × Operand)} {ps : List (Nat × Value)} {z : Value} {places : Array (Nat × Nat)} {cs : List Value} (ho : o.op = .build t parts) (hB : BuildOk P t z places) (hps : ∀ a : Act, Holds T a → (parts.map fun (i, x) => (i, a.eval x)) = ps.toArray) (hfill : Instr.fill (places[·]?) z.cells ps = some cs.toArray) : Quiet P o T Wd (.agg cs.toArray) := fun a w ha _ => by
  obtain ⟨ht, hz, hpl⟩ := hB
  obtain ⟨i0, h1, h2⟩ := Option.map_eq_some_iff.1 hz
  have hp := hps a ha
  have hq := hpl w
  simp only [execOp, ho]
  simp [Instr.build, run_underlying ht, zeroValue, typeInfo, h1, h2, hp, hfill]
  simp only [bind_pure_comp] at hq
  simp [hq, hfill]
end
end Go.Proofs.YtbcdcakcmdcafaaGreat

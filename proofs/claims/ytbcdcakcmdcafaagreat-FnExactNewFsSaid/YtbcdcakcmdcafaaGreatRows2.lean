/- What is proved: rules at the level of whole slices: append, make, an element set, elements read; structs behind pointers; results that lie in memory. No condition. -/
import Derived.Test.YtbcdcakcmdcafaaGreatRows1
namespace Go.Proofs.YtbcdcakcmdcafaaGreat
open Go Go.RowKit
set_option linter.unusedVariables false
set_option linter.unusedSimpArgs false

/-- A struct behind a pointer, read. -/
def PtrRo {α : Type} (K : Kd α) (w : World) (F : Bs) (ad : Addr) (x : α) : Prop := ∃ ecs, F ad.block ∧ K.ro w F x ecs ∧ ∀ (i : Nat) (u : Value), ecs[i]? = some u → w.cell? (ad.add i) = some u
theorem sub_at {fl cs : List Value} {off : Nat} (h : (fl.drop off).take cs.length = cs) : ∀ (i : Nat) (u : Value), cs[i]? = some u → fl[off + i]? = some u := fun i u hu => by
  rw [← h, List.getElem?_take] at hu
  split at hu
  · simpa using hu
  · cases hu
theorem inz {P : Program} {e s b : Nat} {z : Option Value} (h : (P.info? e).map (fun i => (i.size, i.bytes, i.zero)) = some (s, b, z)) : (P.info? e).map (fun i => (i.size, i.zero)) = some (s, z) := by
  obtain ⟨i, h1, h2⟩ := Option.map_eq_some_iff.1 h
  obtain ⟨h2, h3⟩ := Prod.mk.inj h2
  obtain ⟨_, h4⟩ := Prod.mk.inj h3
  rw [h1, Option.map_some, h2, h4]
theorem ro_nil {α : Type} {K : Kd α} {e b : Nat} {w : World} {F : Bs} : (kslice e b K).ro w F [] [.slice none 0 0] := ⟨none, 0, rfl, Nat.le_refl _, Nat.zero_le _, by simp, fun h => absurd h (Nat.lt_irrefl _)⟩
section
variable {P : Program} {T : Slots} {Wd : World → Prop} {o : Oper} {N : Nat} {w0 : World} {S0 : Bs} {l l' lk : List Asn}

theorem WS.row0 {g e sz c : Nat} {fl : List Value} {v : Value} (ht : Take l (rowA g e sz c fl) l') (hv : fl[0]? = some v) : ∀ w, WS w0 S0 l w → w.cell? (⟨g, 0, none⟩ : Addr) = some v := fun w hw => by
  have := WS.row ht hv w hw
  rwa [add_plain'] at this
theorem WS.rows0 {g e sz c : Nat} {fl cs : List Value} (ht : Take l (rowA g e sz c fl) l') (hv : ∀ (i : Nat) (u : Value), cs[i]? = some u → fl[i]? = some u) : ∀ w, WS w0 S0 l w → ∀ (i : Nat) (u : Value), cs[i]? = some u → w.cell? ((⟨g, 0, none⟩ : Addr).add i) = some u :=
  fun w hw i u hu => WS.row ht (hv i u hu) w hw
theorem WS.el {B : Addr} {ecs : List Value} {k : Nat} {u : Value} (hF : FF w0 S0 B.block) (hc : ∀ (i : Nat) (u : Value), ecs[i]? = some u → w0.cell? (B.add i) = some u) (hu : ecs[k]? = some u) : ∀ w, WS w0 S0 l w → w.cell? (B.add k) = some u :=
  WS.ctx (by rw [add_block]; exact hF) (hc k u hu)
theorem WS.el0 {B : Addr} {ecs : List Value} {u : Value} (hF : FF w0 S0 B.block) (hc : ∀ (i : Nat) (u : Value), ecs[i]? = some u → w0.cell? (B.add i) = some u) (hu : ecs[0]? = some u) : ∀ w, WS w0 S0 l w → w.cell? B = some u :=
  WS.ctx hF (hc 0 u hu)
theorem WS.els {B : Addr} {ecs : List Value} (hF : FF w0 S0 B.block) (hc : ∀ (i : Nat) (u : Value), ecs[i]? = some u → w0.cell? (B.add i) = some u) : ∀ w, WS w0 S0 l w → ∀ (i : Nat) (u : Value), ecs[i]? = some u → w.cell? (B.add i) = some u := WS.ctxs hF hc
theorem WS.elsub {B : Addr} {ecs cs : List Value} {k : Nat} (hF : FF w0 S0 B.block) (hc : ∀ (i : Nat) (u : Value), ecs[i]? = some u → w0.cell? (B.add i) = some u) (hs : ∀ (i : Nat) (u : Value), cs[i]? = some u → ecs[k + i]? = some u) : ∀ w, WS w0 S0 l w → ∀ (i : Nat) (u : Value), cs[i]? = some u → w.cell? ((B.add k).add i) = some u :=
  fun w hw i u hu => by rw [add_add]; exact WS.el hF hc (hs i u hu) w hw
theorem WS.oform {α : Type} {K : Kd α} {e by_ : Nat} {xs : List α} {v : Value} (ht : Take l (ownA (kslice e by_ K) xs [v]) l') : ∀ w, WS w0 S0 l w → ∃ A c, v = .slice A xs.length c ∧ xs.length ≤ c ∧ c ≤ 9223372036854775807 ∧ xs.length * by_ ≤ 140737488355328 := fun w hw => by
  obtain ⟨S, hs, _, _⟩ := hw.take ht
  exact own_form (show (kslice e by_ K).own w S xs [v] from hs.head)
theorem WS.oad {α : Type} {K : Kd α} {e by_ : Nat} {xs : List α} {A : Option Addr} {n c : Nat} (ht : Take l (ownA (kslice e by_ K) xs [.slice A n c]) l') (hp : 0 < xs.length) : ∀ w, WS w0 S0 l w → ∃ ad, A = some ad := fun w hw => by
  obtain ⟨S, hs, _, _⟩ := hw.take ht
  obtain ⟨A', c', h, _, _, _, h4⟩ := ro_form ((kslice e by_ K).own_ro (show (kslice e by_ K).own w S xs _ from hs.head))
  obtain ⟨ad, ha, _⟩ := h4 hp
  injection h with h1 h2 h3
  exact ⟨ad, h1.trans ha⟩
theorem WS.oel {α : Type} {enc : α → Value} {ok : α → Prop} {h1 : ∀ x, (enc x).oneCell' = true} {e by_ : Nat} {xs : List α} {ad : Addr} {n c j : Nat} {x : α} (ht : Take l (ownA (kslice e by_ (kscalar enc ok h1)) xs [.slice (some ad) n c]) l') (hx : xs[j]? = some x) : ∀ w, WS w0 S0 l w → w.cell? (ad.add (j * 1)) = some (enc x) := fun w hw => by
  obtain ⟨S, hs, _, _⟩ := hw.take ht
  obtain ⟨A', c', h, _, _, _, h4⟩ := ro_form ((kslice e by_ (kscalar enc ok h1)).own_ro (show (kslice e by_ (kscalar enc ok h1)).own w S xs _ from hs.head))
  obtain ⟨ad', ha, hr⟩ := h4 (by have := (List.getElem?_eq_some_iff.1 hx).1; omega)
  injection h with g1 g2 g3
  rw [ha] at g1
  obtain rfl := Option.some.inj g1
  obtain ⟨ecs, ⟨rfl, _⟩, _, hc⟩ := hr.elem hx
  exact hc 0 _ rfl
/-- What is known of a scalar of one's own row. -/
theorem WS.ook {α : Type} {enc : α → Value} {ok : α → Prop} {h1 : ∀ x, (enc x).oneCell' = true} {e by_ : Nat} {xs : List α} {v : Value} {j : Nat} {x : α} (ht : Take l (ownA (kslice e by_ (kscalar enc ok h1)) xs [v]) l') (hx : xs[j]? = some x) : ∀ w, WS w0 S0 l w → ok x := fun w hw => by
  obtain ⟨S, hs, _, _⟩ := hw.take ht
  obtain ⟨A', c', h, _, _, _, h4⟩ := ro_form ((kslice e by_ (kscalar enc ok h1)).own_ro (show (kslice e by_ (kscalar enc ok h1)).own w S xs _ from hs.head))
  obtain ⟨ad', ha, hr⟩ := h4 (by have := (List.getElem?_eq_some_iff.1 hx).1; omega)
  obtain ⟨ecs, ⟨rfl, h⟩, _, hc⟩ := hr.elem hx
  exact h
theorem Tr.ptr {α : Type} {K : Kd α} {w : World} {S1 : Bs} {lr : List Asn} {g e sz c : Nat} {ecs : List Value} {x : α} (tr : Tr w0 S0 w S1 lr) (tk : Take lr (rowA g e sz c ecs) l') (hr : K.ro w (FF w S1) x ecs) : PtrRo K w (FF w S1) ⟨g, 0, none⟩ x := by
  obtain ⟨S2, hs, hsub⟩ := tr.all
  have h := (hs.take tk).head
  refine ⟨ecs, hsub _ h.1, hr, fun i u hu => ?_⟩
  rw [add_plain']
  exact row_cell h hu
theorem Tr.ctxP {α : Type} {K : Kd α} {w : World} {S1 : Bs} {lr : List Asn} {ad : Addr} {x : α} (tr : Tr w0 S0 w S1 lr) (h : PtrRo K w0 (FF w0 S0) ad x) : PtrRo K w (FF w S1) ad x := by
  obtain ⟨ecs, h1, h2, h3⟩ := h
  refine ⟨ecs, (tr.wide _ h1).1, tr.ctx h2, fun i u hu => ?_⟩
  exact (cell_loc (by rw [add_block]; exact (tr.wide _ h1).2)).trans (h3 i u hu)
/-- A struct that is an element, or behind a pointer. -/
theorem Tr.el {α : Type} {K : Kd α} {w : World} {S1 : Bs} {lr : List Asn} {B : Addr} {ecs : List Value} {x : α} (tr : Tr w0 S0 w S1 lr) (hF : FF w0 S0 B.block) (hr : K.ro w0 (FF w0 S0) x ecs) (hc : ∀ (i : Nat) (u : Value), ecs[i]? = some u → w0.cell? (B.add i) = some u) : PtrRo K w (FF w S1) B x :=
  tr.ctxP ⟨ecs, hF, hr, hc⟩

/-! ### results in memory -/
theorem resC {fn : Func} {s ty : Nat} {ad : Addr} {cs : List Value} (hr : fn.results = #[.cell s ty]) (h : Get T (s, .pointer (some ad))) (hg : AggIs P ty true) (hi : (P.info? ty).map (·.size) = some cs.length)
    (hc : ∀ w, WS w0 S0 l w → ∀ (i : Nat) (u : Value), cs[i]? = some u → w.cell? (ad.add i) = some u) : ∀ (a : Act) (w : World), Holds T a → WS w0 S0 l w → (results fn a.tmps).run P w = .ok (.agg cs.toArray) w := fun a w ha hw => by
  obtain ⟨d, ht, hd⟩ := hg.ex
  have hag := run_isAgg ht w
  rw [hd] at hag
  obtain ⟨i0, h1, h2⟩ := Option.map_eq_some_iff.1 hi
  have hl := run_loadCells_list (P := P) w ad cs (hc w hw)
  have e1 := slot_of h ha
  simp only [Array.getD_eq_getD_getElem?] at e1
  simp [results, hr, e1, asAddr, loadVar, Sem.run_bind, hag, sizeOf, typeInfo, h1, h2, hl]
theorem resC1 {fn : Func} {s ty : Nat} {ad : Addr} {v : Value} (hr : fn.results = #[.cell s ty]) (h : Get T (s, .pointer (some ad))) (hg : AggIs P ty false)
    (hc : ∀ w, WS w0 S0 l w → w.cell? ad = some v) : ∀ (a : Act) (w : World), Holds T a → WS w0 S0 l w → (results fn a.tmps).run P w = .ok v w := fun a w ha hw => by
  obtain ⟨d, ht, hd⟩ := hg.ex
  have hag := run_isAgg ht w
  rw [hd] at hag
  have e1 := slot_of h ha
  simp only [Array.getD_eq_getD_getElem?] at e1
  simp [results, hr, e1, asAddr, loadVar, Sem.run_bind, hag, load, Sem.run, hc w hw]

/-! ### append -/
theorem exec_append {s x : Operand} {t : TypeId} {v xv : Value} {a : Act} {w : World} (ho : o.op = .call { callee := .builtin .append, args := #[s, x], argTypes := #[t, t] }) (hs : a.eval s = v) (hx : a.eval x = xv) :
    (execOp a.eval o).run P w = ((Builtin.append_ #[t, t] o.type #[v, xv]).run P w).andThen fun r w' => .ok (.value r) w' := by
  simp only [execOp, ho]
  simp [resolve, hs, hx, invoke, builtin]
theorem WS.eff {lc lr : List Asn} {w : World} (h : WS w0 S0 (lc ++ lr) w) : ∃ S1 : Bs, Star lc w S1 ∧ Tr w0 S0 w S1 lr ∧ ∀ (w' : World) (l' : List Asn) (S' : Bs), Star l' w' S' → (∀ b, S' b → S1 b ∨ w.heap.size ≤ b) → Fr w S1 w' → WS w0 S0 (l' ++ lr) w' := by
  obtain ⟨S1, h1, h2, h3⟩ := h.frame
  exact ⟨S1, h1, h2, fun w' l' S' a b c => h3 w' l' ⟨S', a, b, c⟩⟩
theorem e_append1 {α : Type} {K : Kd α} {e by_ eb gb : Nat} {xs : List α} {y : α} {cs : List Value} {z v : Value} {s x : Operand} {t : TypeId} (ho : o.op = .call { callee := .builtin .append, args := #[s, x], argTypes := #[t, t] }) (ht : P.underlying t = some (.slice e))
    (hi : (P.info? e).map (fun i => (i.size, i.bytes, i.zero)) = some (K.sz, by_, some z)) (hz : z.cells.size = K.sz) (hs : Val T s v) (hx : Val T x (.slice (some ⟨gb, 0, none⟩) 1 1))
    (hT : Takes l [ownA (kslice e by_ K) xs [v], rowA gb eb K.sz 1 cs, ownA K y cs] l') (hb : (xs.length + 1) * by_ ≤ 140737488355328) (h63 : xs.length + 1 ≤ 9223372036854775807) :
    Eff P o T w0 S0 l (fun r l2 => l2 = ownA (kslice e by_ K) (xs ++ [y]) [r] :: l') := by
  intro a w ha hw
  obtain ⟨S1, ⟨SA, SR, hA, ⟨SB, SC, hB, hC, i1, i2, d1⟩, j1, j2, d2⟩, _, hk⟩ := (hw.takes hT).eff
  have hC' : K.own w SC y cs := hC.head (c := ownA K y cs)
  have hl : cs.length = K.sz := own_len hC'
  obtain ⟨v', w', S'', hr, hown, hsub, hfr⟩ := own_append (P := P) (t := t) (ty := o.type) (K := K) (xs := xs) (ys := [y]) (css := [cs]) (xv := .slice (some ⟨gb, 0, none⟩) 1 1) (S := SA) (S' := SC) ht hi hz hA
    ⟨by simp [hl], .inl ⟨_, _, rfl, fun j u hu => by rw [add_plain']; exact row_cell hB (by simpa using hu)⟩⟩ rfl (Star.one (c := ownA K y cs) hC') (fun b hb hc => d2 b hb (i2 b hc)) (by simpa using hb) (by simpa using h63)
  refine ⟨v', w', _, ?_, rfl, hk w' [ownA (kslice e by_ K) (xs ++ [y]) [v']] S'' (Star.one hown) (fun b hb => ?_) (hfr.wide j1)⟩
  · rw [exec_append ho (hs a ha) (hx a ha), hr]; rfl
  · rcases hsub b hb with h | h | h
    · exact .inl (j1 b h)
    · exact .inl (j2 b (i2 b h))
    · exact .inr h
def Flat {α : Type} (K : Kd α) : Prop := ∀ {w F x cs}, K.ro w F x cs → ∀ w' S', K.own w' S' x cs
theorem flat_scalar {α : Type} (enc : α → Value) (ok : α → Prop) (h1 : ∀ x, (enc x).oneCell' = true) : Flat (kscalar enc ok h1) := fun h _ _ => h
theorem flat_pair {α β : Type} {A : Kd α} {B : Kd β} (a : Flat A) (b : Flat B) : Flat (kpair A B) := by
  rintro w F x cs ⟨c1, c2, rfl, h1, h2⟩ w' S'
  exact ⟨c1, c2, rfl, fun _ => False, fun _ => False, a h1 _ _, Star.one (c := ownA B x.2 c2) (b h2 _ _), fun _ h => h.elim, fun _ h => h.elim, fun _ h => h.elim⟩
theorem flat_iso {α β : Type} {A : Kd α} (f : β → α) (a : Flat A) : Flat (kiso A f) := fun h _ _ => a h _ _
theorem seq_flat {α : Type} {K : Kd α} (hK : Flat K) {w : World} {F : Bs} : ∀ {ys : List α} {css : List (List Value)}, css.length = ys.length → (∀ (j : Nat) (y : α) (c : List Value), ys[j]? = some y → css[j]? = some c → K.ro w F y c) → ∀ w' S', Star (seqA K ys css) w' S'
  | [], [], _, _, _, _ => trivial
  | [], _ :: _, h, _, _, _ => by simp at h
  | _ :: _, [], h, _, _, _ => by simp at h
  | y :: ys, c :: css, hl, h, w', S' =>
    ⟨fun _ => False, fun _ => False, hK (h 0 y c rfl rfl) _ _, seq_flat hK (by simpa using hl) (fun j y' c' h1 h2 => h (j + 1) y' c' h1 h2) _ _, fun _ h => h.elim, fun _ h => h.elim, fun _ h => h.elim⟩
theorem list_of {p : Nat → List Value → Prop} : ∀ n, (∀ j, j < n → ∃ c, p j c) → ∃ css : List (List Value), css.length = n ∧ ∀ j c, css[j]? = some c → p j c
  | 0, _ => ⟨[], rfl, by simp⟩
  | n + 1, h => by
    obtain ⟨css, h1, h2⟩ := list_of n (fun j hj => h j (by omega))
    obtain ⟨c, hc⟩ := h n (by omega)
    refine ⟨css ++ [c], by simp [h1], fun j d hd => ?_⟩
    rw [List.getElem?_append] at hd
    split at hd
    · exact h2 j d hd
    · rename_i hj
      have : j - css.length = 0 := by
        have := (List.getElem?_eq_some_iff.1 hd).1
        simp at this; omega
      have e : j = n := by omega
      subst e
      rw [h1] at hd
      simp at hd
      subst hd
      exact hc
theorem src_flat {α : Type} {K : Kd α} {e by_ : Nat} {w : World} {F : Bs} {ys : List α} {xv : Value} (h : (kslice e by_ K).ro w F ys [xv]) : ∃ css : List (List Value), css.length = ys.length ∧ SrcOk w xv ys.length K.sz css.flatten ∧ ∀ (j : Nat) (y : α) (c : List Value), ys[j]? = some y → css[j]? = some c → K.ro w F y c := by
  obtain ⟨A, c, rfl, hle, _, _, h4⟩ := ro_form h
  by_cases hp : 0 < ys.length
  · obtain ⟨ad, rfl, hF, hr⟩ := h4 hp
    obtain ⟨css, h1, h2⟩ := list_of (p := fun j c => ∀ y, ys[j]? = some y → K.ro w F y c ∧ ∀ i u, c[i]? = some u → w.cell? (ad.add (j * K.sz + i)) = some u) ys.length (fun j hj => by
      obtain ⟨y, hy⟩ := get_ex hj
      obtain ⟨ecs, k1, k2⟩ := hr j y hy
      exact ⟨ecs, fun y' hy' => by rw [hy] at hy'; obtain rfl := Option.some.inj hy'; exact ⟨k1, k2⟩⟩)
    have hlen : ∀ d, d ∈ css → d.length = K.sz := fun d hd => by
      obtain ⟨j, hj, rfl⟩ := List.mem_iff_getElem.1 hd
      obtain ⟨y, hy⟩ := get_ex (xs := ys) (j := j) (by omega)
      exact K.ro_len (h2 j _ (List.getElem?_eq_getElem hj) y hy).1
    refine ⟨css, h1, ⟨by rw [flatten_len hlen, h1], .inl ⟨ad, c, rfl, fun q u hu => ?_⟩⟩, fun j y d hy hd => (h2 j d hd y hy).1⟩
    have hq : q < ys.length * K.sz := by have := (List.getElem?_eq_some_iff.1 hu).1; rw [flatten_len hlen, h1] at this; exact this
    have hpos := K.pos
    have hj : q / K.sz < ys.length := Nat.div_lt_of_lt_mul (by rw [Nat.mul_comm]; exact hq)
    have hdm : q / K.sz * K.sz + q % K.sz = q := by rw [Nat.mul_comm]; exact Nat.div_add_mod q K.sz
    obtain ⟨y, hy⟩ := get_ex hj
    have hcj : css[q / K.sz]? = some css[q / K.sz] := List.getElem?_eq_getElem (by omega)
    have hf := flatten_at hlen hcj (q % K.sz) (Nat.mod_lt _ hpos)
    rw [hdm, hu] at hf
    have := (h2 _ _ hcj y hy).2 _ u hf.symm
    rwa [hdm] at this
  · have h0 : ys.length = 0 := by omega
    obtain rfl := List.eq_nil_of_length_eq_zero h0
    refine ⟨[], rfl, ⟨by simp, ?_⟩, by simp⟩
    cases A with
    | none => exact .inr ⟨⟨c, rfl⟩, rfl⟩
    | some a => exact .inl ⟨a, c, rfl, by simp⟩
theorem e_appendF {α : Type} {K : Kd α} (hK : Flat K) {e by_ e2 by2 : Nat} {xs ys : List α} {z v xv : Value} {s x : Operand} {t : TypeId} (ho : o.op = .call { callee := .builtin .append, args := #[s, x], argTypes := #[t, t] }) (ht : P.underlying t = some (.slice e))
    (hi : (P.info? e).map (fun i => (i.size, i.bytes, i.zero)) = some (K.sz, by_, some z)) (hz : z.cells.size = K.sz) (hs : Val T s v) (hx : Val T x xv)
    (hT : Takes l [ownA (kslice e by_ K) xs [v]] l') (hsrc : ∀ w S1, Tr w0 S0 w S1 l' → (kslice e2 by2 K).ro w (FF w S1) ys [xv]) (hb : (xs.length + ys.length) * by_ ≤ 140737488355328) (h63 : xs.length + ys.length ≤ 9223372036854775807) :
    Eff P o T w0 S0 l (fun r l2 => l2 = ownA (kslice e by_ K) (xs ++ ys) [r] :: l') := by
  intro a w ha hw
  obtain ⟨S1, hA, tr, hk⟩ := (hw.takes hT).eff
  obtain ⟨css, h1, h2, h3⟩ := src_flat (hsrc w S1 tr)
  have hseq := seq_flat hK h1 h3 w (fun _ => False)
  obtain ⟨v', w', S'', hr, hown, hsub, hfr⟩ := own_append (P := P) (t := t) (ty := o.type) (K := K) (xs := xs) (ys := ys) (css := css) (xv := xv) (S := S1) (S' := fun _ => False) ht hi hz (show (kslice e by_ K).own w S1 xs [v] from hA.head) h2 h1 hseq (fun _ _ h => h) hb h63
  refine ⟨v', w', _, ?_, rfl, hk w' [ownA (kslice e by_ K) (xs ++ ys) [v']] S'' (Star.one hown) (fun b hb => ?_) hfr⟩
  · rw [exec_append ho (hs a ha) (hx a ha), hr]; rfl
  · rcases hsub b hb with h | h | h
    · exact .inl h
    · exact h.elim
    · exact .inr h

/-! ### make -/
theorem madeCells_flat (z : Array Value) (n : Nat) (hz : 0 < z.size) : (madeCells z (n * z.size)).toList = (List.replicate n z.toList).flatten := by
  have hl : ∀ c, c ∈ List.replicate n z.toList → c.length = z.size := fun c hc => by rw [(List.mem_replicate.1 hc).2, Array.length_toList]
  apply List.ext_getElem?
  intro q
  by_cases hq : q < n * z.size
  · have hj : q / z.size < n := Nat.div_lt_of_lt_mul (by rw [Nat.mul_comm]; exact hq)
    have hdm : q / z.size * z.size + q % z.size = q := by rw [Nat.mul_comm]; exact Nat.div_add_mod q z.size
    have hm := Nat.mod_lt q hz
    have h1 := flatten_at hl (j := q / z.size) (c := z.toList) (by rw [List.getElem?_replicate, if_pos hj]) (q % z.size) hm
    rw [hdm] at h1
    rw [h1]
    simp [madeCells, hq, hm]
  · have h2 : (madeCells z (n * z.size)).toList.length ≤ q := by rw [Array.length_toList, size_madeCells]; omega
    have h3 : (List.replicate n z.toList).flatten.length ≤ q := by rw [flatten_len hl, List.length_replicate]; omega
    rw [List.getElem?_eq_none h2, List.getElem?_eq_none h3]
theorem seq_rep {α : Type} {K : Kd α} {x0 : α} {c0 : List Value} (h0 : ∀ w S, K.own w S x0 c0) : ∀ (n : Nat) (w : World) (S : Bs), Star (seqA K (List.replicate n x0) (List.replicate n c0)) w S
  | 0, _, _ => trivial
  | n + 1, w, S => ⟨fun _ => False, fun _ => False, h0 w _, seq_rep h0 n w _, fun _ h => h.elim, fun _ h => h.elim, fun _ h => h.elim⟩
theorem e_makeSlice {α : Type} {K : Kd α} {e by_ n : Nat} {x0 : α} {z : Value} {k k' : IntKind} {lo co : Operand} {t : TypeId} (ho : o.op = .makeSlice t lo co) (ht : P.underlying t = some (.slice e)) (hi : (P.info? e).map (fun i => (i.size, i.bytes, i.zero)) = some (K.sz, by_, some z)) (hz : z.cells.size = K.sz)
    (h0 : ∀ w S, K.own w S x0 z.cells.toList) (hl : Val T lo (.int k (n : Int))) (hc : Val T co (.int k' (n : Int))) (hb : n * by_ ≤ 140737488355328) (h63 : n ≤ 9223372036854775807) : Eff P o T w0 S0 l (fun r l2 => l2 = ownA (kslice e by_ K) (List.replicate n x0) [r] :: l) := by
  intro a w ha hw
  obtain ⟨i0, k1, k2⟩ := Option.map_eq_some_iff.1 hi
  obtain ⟨k2, k3⟩ := Prod.mk.inj k2
  obtain ⟨k3, k4⟩ := Prod.mk.inj k3
  have hpos := K.pos
  have hbb : (i0.bytes : Int) * (n : Int) ≤ 281474976710656 := by
    have h : ((by_ * n : Nat) : Int) ≤ 281474976710656 := by rw [Nat.mul_comm]; omega
    rw [k3]
    rwa [Int.natCast_mul] at h
  have hr := run_make (P := P) w t e i0 z ht k1 k4 k k' n n (by omega) (Int.le_refl _) hbb (by omega)
  simp only [Int.toNat_natCast, k2] at hr
  obtain ⟨S, hs, hsub, hf⟩ := hw
  have hs' := hs.lt
  have hold : ∀ b, b < w.heap.size → (w.alloc (.cells (madeCells z.cells (n * K.sz)) e)).heap[b]? = w.heap[b]? := fun b hb => Below.heap_alloc w _ b hb
  have hfl : (madeCells z.cells (n * K.sz)).toList = (List.replicate n z.cells.toList).flatten := by rw [← hz]; exact madeCells_flat _ _ (by omega)
  refine ⟨.slice (some ⟨w.heap.size, 0, none⟩) n n, w.alloc (.cells (madeCells z.cells (n * K.sz)) e), _, ?_, rfl, fun x => S x ∨ x = w.heap.size, ⟨fun x => x = w.heap.size, fun x => S x ∧ x < w.heap.size, ?_, hs'.loc (fun x hx => hold x hx.2), fun _ h => .inr h, fun _ h => .inl h.1, fun x hx hy => by subst hx; exact Nat.lt_irrefl _ hy.2⟩, ?_, ?_⟩
  · simp only [execOp, ho, hl a ha, hc a ha]
    simp only [Sem.run_bind, hr, Result.andThen_ok]; rfl
  · refine .inr ⟨w.heap.size, n, List.replicate n z.cells.toList, by rw [List.length_replicate], by rw [List.length_replicate]; exact Nat.le_refl _, h63, by rw [List.length_replicate]; exact hb, by rw [List.length_replicate, List.length_replicate], ?_⟩
    refine ⟨fun x => x = w.heap.size, fun _ => False, ⟨rfl, _, heap_alloc_new w _, by rw [size_madeCells], ?_, ?_⟩, seq_rep h0 n _ _, fun _ h => h, fun _ h => h.elim, fun _ _ h => h⟩
    · rw [← hfl, Array.length_toList]; exact Nat.le_refl _
    · rw [← hfl, List.take_length]
  · rintro x (h | rfl)
    · exact hsub x h
    · exact .inr hf.size
  · exact ⟨hf.os, hf.tape, hf.output, Nat.le_trans hf.size (by simp), fun b hb' hn => (hold b (Nat.lt_of_lt_of_le hb' hf.size)).trans (hf.block b hb' hn)⟩

/-! ### an element set -/
theorem seq_set {α : Type} {K : Kd α} {y : α} {cs : List Value} {w : World} : ∀ {xs : List α} {css : List (List Value)} {S1 S2 S : Bs} (j : Nat), Star (seqA K xs css) w S1 → K.own w S2 y cs → (∀ b, S1 b → S b) → (∀ b, S2 b → S b) → (∀ b, S1 b → ¬ S2 b) → Star (seqA K (xs.set j y) (css.set j cs)) w S
  | [], css, _, _, _, _, h, _, _, _, _ => by simp [seqA, Star]
  | x :: xs, [], _, _, _, j, h, _, _, _, _ => by
    have : seqA K ((x :: xs).set j y) (([] : List (List Value)).set j cs) = [] := by simp [seqA]
    rw [this]; trivial
  | x :: xs, c :: css, S1, S2, S, 0, ⟨A, B, hA, hB, a, b, d⟩, h2, i1, i2, dd => ⟨S2, B, h2, hB, i2, fun q hq => i1 q (b q hq), fun q hq hb => dd q (b q hb) hq⟩
  | x :: xs, c :: css, S1, S2, S, j + 1, ⟨A, B, hA, hB, a, b, d⟩, h2, i1, i2, dd =>
    ⟨A, fun q => B q ∨ S2 q, hA, seq_set j hB h2 (fun _ h => .inl h) (fun _ h => .inr h) (fun q hq => dd q (b q hq)), fun q hq => i1 q (a q hq), fun q hq => hq.elim (fun h => i1 q (b q h)) (i2 q), fun q hq hb => hb.elim (d q hq) (dd q (a q hq))⟩
theorem flatten_set {css : List (List Value)} {n : Nat} {cs : List Value} (hl : ∀ c, c ∈ css → c.length = n) (hc : cs.length = n) : ∀ {j : Nat}, j < css.length → (css.set j cs).flatten = putAt css.flatten (j * n) cs := by
  induction css with
  | nil => intro j hj; simp at hj
  | cons d css ih =>
    intro j hj
    have hd := hl d List.mem_cons_self
    cases j with
    | zero =>
      simp only [List.set_cons_zero, List.flatten_cons, putAt, Nat.zero_mul, List.take_zero, List.nil_append, Nat.zero_add]
      rw [List.drop_append, hc, ← hd, List.drop_length, Nat.sub_self, List.drop_zero, List.nil_append]
    | succ j =>
      simp only [List.set_cons_succ, List.flatten_cons]
      rw [ih (fun c hc => hl c (List.mem_cons_of_mem _ hc)) (by simpa using hj)]
      have e1 : (j + 1) * n = d.length + j * n := by rw [Nat.succ_mul, hd]; omega
      have e2 : (d ++ css.flatten).take (d.length + j * n) = d ++ css.flatten.take (j * n) := by
        rw [List.take_append, List.take_of_length_le (by omega), Nat.add_sub_cancel_left]
      have e3 : (d ++ css.flatten).drop (d.length + j * n + cs.length) = css.flatten.drop (j * n + cs.length) := by
        rw [List.drop_append, List.drop_of_length_le (by omega), List.nil_append]
        congr 1; omega
      simp only [putAt, e1, e2, e3, List.append_assoc]
theorem es_set {α : Type} {K : Kd α} {e by_ : Nat} {xs : List α} {y : α} {cs : List Value} {ad : Addr} {n c j : Nat} {p x : Operand} {t : TypeId} {v : Value} (ho : o.op = .store t p x) (hi : (P.info? t).map (·.size) = some K.sz) (hp : Val T p (.pointer (some (ad.add (j * K.sz))))) (hx : Val T x v) (hv : v.cells.toList = cs)
    (hT : Takes l [ownA (kslice e by_ K) xs [.slice (some ad) n c], ownA K y cs] l') (hj : j < xs.length) : EffS P o T w0 S0 l (ownA (kslice e by_ K) (xs.set j y) [.slice (some ad) n c] :: l') := by
  intro a w ha hw
  obtain ⟨S1, ⟨SA, SR, hA, hC, j1, j2, d2⟩, _, hk⟩ := (hw.takes hT).eff
  have hC' : K.own w SR y cs := hC.head (c := ownA K y cs)
  have hl : cs.length = K.sz := own_len hC'
  have hone := K.ro_one (K.own_ro hC')
  obtain ⟨i0, k1, k2⟩ := Option.map_eq_some_iff.1 hi
  rcases (show (kslice e by_ K).own w SA xs [.slice (some ad) n c] from hA) with ⟨A, h, rfl⟩ | ⟨g, c', css, h, h1, h2, h3, h4, h5⟩
  · simp at hj
  have h' := List.singleton_inj.1 h
  injection h' with g1 g2 g3
  obtain rfl := Option.some.inj g1
  subst g2; subst g3
  obtain ⟨B1, B2, ⟨hg, cur, q1, q2, q3, q4⟩, hseq, i1, i2, dd⟩ := h5
  have hlen := seq_len h4 hseq
  have hfl : css.flatten.length = xs.length * K.sz := by rw [flatten_len hlen, h4]
  have hbd : j * K.sz + cs.length ≤ css.flatten.length := by
    rw [hl, hfl, ← Nat.succ_mul]; exact Nat.mul_le_mul_right _ hj
  have hst := run_storeCells_at P g (j * K.sz) e cs 0 cur w q1 (by omega) hone
  simp only [Nat.add_zero] at hst
  have hne : ∀ b, b ≠ g → (w.setRow g (cur.toList.take (j * K.sz) ++ cs ++ cur.toList.drop (j * K.sz + cs.length)).toArray).heap[b]? = w.heap[b]? := fun b hb => setRow_other w g b _ hb
  refine ⟨w.setRow g (cur.toList.take (j * K.sz) ++ cs ++ cur.toList.drop (j * K.sz + cs.length)).toArray, ?_, hk _ [ownA (kslice e by_ K) (xs.set j y) [.slice (some ⟨g, 0, none⟩) xs.length c]] (fun b => SA b ∨ SR b) (Star.one (c := ownA (kslice e by_ K) (xs.set j y) _) ?_) (fun b hb => .inl (hb.elim (j1 b) (j2 b))) ?_⟩
  · have hsz : v.cells.size = i0.size := by rw [k2, ← hl, ← hv, Array.length_toList]
    simp only [execOp, ho, hp a ha, hx a ha]
    rw [add_plain']
    simp [Instr.storeAt, Instr.sureAddr, storeVar, sizeOf, typeInfo, k1, hsz, hv, hst]
  · refine .inr ⟨g, c, css.set j cs, by rw [List.length_set], by rw [List.length_set]; exact h1, h2, by rw [List.length_set]; exact h3, by rw [List.length_set, List.length_set, h4], ?_⟩
    refine ⟨fun b => b = g, fun b => B2 b ∨ SR b, ⟨rfl, _, setRow_heap w g cur _ e _ q1, ?_, ?_, ?_⟩, ?_, fun b hb => .inl (hb ▸ i1 g hg), fun b hb => hb.elim (fun h => .inl (i2 b h)) .inr, fun b hb hb' => by subst hb; exact hb'.elim (dd _ hg) (d2 _ (i1 _ hg))⟩
    · simp only [List.size_toArray, List.length_append, List.length_take, List.length_drop, Array.length_toList]; omega
    · rw [flatten_set hlen hl (by omega), putAt_len hbd]; simp only [List.size_toArray, List.length_append, List.length_take, List.length_drop, Array.length_toList]; omega
    · rw [flatten_set hlen hl (by omega), putAt_len hbd]
      have := take_put (L := cur.toList) (cs := cs) (off := j * K.sz) (n := css.flatten.length) hbd (by rw [Array.length_toList]; exact q3)
      rw [q4] at this
      exact this
    · exact seq_set j (hseq.loc (fun b hb => hne b (fun e => dd g hg (e ▸ hb)))) (K.own_loc hC' (fun b hb => hne b (fun e => d2 g (i1 g hg) (e ▸ hb)))) (fun b h => .inl h) (fun b h => .inr h) (fun b hb => d2 b (i2 b hb))
  · exact ⟨rfl, rfl, rfl, by simp, fun b hb hn => hne b (fun e => hn (j1 b (e ▸ i1 g hg)))⟩
end
end Go.Proofs.YtbcdcakcmdcafaaGreat

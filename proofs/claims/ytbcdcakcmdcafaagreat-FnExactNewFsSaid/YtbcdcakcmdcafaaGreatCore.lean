/- What is proved: a small logic for walks: a judgement over (slots, chunks), one rule a form of code. No condition. -/
import Derived.Test.YtbcdcakcmdcafaaGreatKinds
namespace Go.Proofs.YtbcdcakcmdcafaaGreat
open Go Go.RowKit
set_option linter.unusedVariables false
set_option linter.unusedSimpArgs false

/-! ### The frame of a call -/
structure Fr (w0 : World) (S0 : Bs) (w : World) : Prop where
  os : w.os = w0.os
  tape : w.tape = w0.tape
  output : w.output = w0.output
  size : w0.heap.size ≤ w.heap.size
  block : ∀ b, b < w0.heap.size → ¬ S0 b → w.heap[b]? = w0.heap[b]?
theorem Fr.refl (w : World) (S : Bs) : Fr w S w := ⟨rfl, rfl, rfl, Nat.le_refl _, fun _ _ _ => rfl⟩
theorem Fr.trans {w0 w w' : World} {S0 S1 : Bs} (h : Fr w0 S0 w) (k : Fr w S1 w') (hs : ∀ b, S1 b → S0 b ∨ w0.heap.size ≤ b) : Fr w0 S0 w' :=
  ⟨k.os.trans h.os, k.tape.trans h.tape, k.output.trans h.output, Nat.le_trans h.size k.size, fun b hb hn =>
    (k.block b (Nat.lt_of_lt_of_le hb h.size) (fun e => (hs b e).elim hn (fun h' => by omega))).trans (h.block b hb hn)⟩
theorem Fr.wide {w w' : World} {S S' : Bs} (h : Fr w S w') (hs : ∀ b, S b → S' b) : Fr w S' w' := ⟨h.os, h.tape, h.output, h.size, fun b hb hn => h.block b hb (fun e => hn (hs b e))⟩
theorem Fr.below {w0 w : World} (h : Fr w0 (fun _ => False) w) : Below w0.heap.size w0 w := ⟨h.os, h.tape, h.output, h.size, fun k hk => h.block k hk (fun h => h)⟩
theorem Fr.of_below {w0 w : World} (h : Below w0.heap.size w0 w) (S : Bs) : Fr w0 S w := ⟨h.os, h.tape, h.output, h.size, fun k hk _ => h.block k hk⟩
/-- From the world at hand on: one step that turns blocks of S1 alone. -/
theorem Fr.of_grown {w w1 : World} {row : Option Nat} (h : w.grownBy w1 row) (S : Bs) (hr : ∀ k, row = some k → S k) : Fr w S w1 :=
  ⟨h.os, h.tape, h.output, h.size, fun b hb hn => h.block b hb (fun e => hn (hr b e.symm))⟩

/-! ### Slots -/
abbrev Slots := List (Nat × Value)
def Holds (T : Slots) (a : Act) : Prop := ∀ p, p ∈ T → a.tmps[p.1]? = some p.2
inductive Get {α : Type} : List α → α → Prop
  | z {p : α} {l : List α} : Get (p :: l) p
  | s {p q : α} {l : List α} : Get l p → Get (q :: l) p
theorem Get.s4 {α : Type} {p q0 q1 q2 q3 : α} {l : List α} (h : Get l p) : Get (q0 :: q1 :: q2 :: q3 :: l) p := .s (.s (.s (.s h)))
theorem Get.s16 {α : Type} {p q0 q1 q2 q3 q4 q5 q6 q7 q8 q9 q10 q11 q12 q13 q14 q15 : α} {l : List α} (h : Get l p) : Get (q0 :: q1 :: q2 :: q3 :: q4 :: q5 :: q6 :: q7 :: q8 :: q9 :: q10 :: q11 :: q12 :: q13 :: q14 :: q15 :: l) p := .s (.s (.s (.s (.s (.s (.s (.s (.s (.s (.s (.s (.s (.s (.s (.s h)))))))))))))))
theorem Get.mem {α : Type} {l : List α} {p : α} (h : Get l p) : p ∈ l := by
  induction h with
  | z => exact List.mem_cons_self
  | s _ ih => exact List.mem_cons_of_mem _ ih
inductive Er {α : Type} : List α → α → List α → Prop
  | z {p : α} {l : List α} : Er (p :: l) p l
  | s {p q : α} {l l' : List α} : Er l p l' → Er (q :: l) p (q :: l')
theorem Er.s4 {α : Type} {p q0 q1 q2 q3 : α} {l l' : List α} (h : Er l p l') : Er (q0 :: q1 :: q2 :: q3 :: l) p (q0 :: q1 :: q2 :: q3 :: l') := .s (.s (.s (.s h)))
theorem Er.s16 {α : Type} {p q0 q1 q2 q3 q4 q5 q6 q7 q8 q9 q10 q11 q12 q13 q14 q15 : α} {l l' : List α} (h : Er l p l') : Er (q0 :: q1 :: q2 :: q3 :: q4 :: q5 :: q6 :: q7 :: q8 :: q9 :: q10 :: q11 :: q12 :: q13 :: q14 :: q15 :: l) p (q0 :: q1 :: q2 :: q3 :: q4 :: q5 :: q6 :: q7 :: q8 :: q9 :: q10 :: q11 :: q12 :: q13 :: q14 :: q15 :: l') := .s (.s (.s (.s (.s (.s (.s (.s (.s (.s (.s (.s (.s (.s (.s (.s h)))))))))))))))
theorem Er.sub {α : Type} {l l' : List α} {p : α} (h : Er l p l') : ∀ x, x ∈ l' → x ∈ l := by
  induction h with
  | z => exact fun x hx => List.mem_cons_of_mem _ hx
  | s _ ih => intro x hx; rcases List.mem_cons.1 hx with rfl | hx
              · exact List.mem_cons_self
              · exact List.mem_cons_of_mem _ (ih x hx)
theorem Er.mem {α : Type} {l l' : List α} {p : α} (h : Er l p l') : p ∈ l := by
  induction h with
  | z => exact List.mem_cons_self
  | s _ ih => exact List.mem_cons_of_mem _ ih
/-- Of T those that are named. -/
inductive Sub (T : Slots) : Slots → Prop
  | n : Sub T []
  | c {p : Nat × Value} {T' : Slots} : Get T p → Sub T T' → Sub T (p :: T')
  | e {s : Nat} {v v' : Value} {T' : Slots} : Get T (s, v) → v = v' → Sub T T' → Sub T ((s, v') :: T')
theorem Sub.holds {T T' : Slots} (h : Sub T T') {a : Act} (ha : Holds T a) : Holds T' a := by
  induction h with
  | n => intro p hp; cases hp
  | c h1 _ ih => intro p hp; rcases List.mem_cons.1 hp with rfl | hp
                 · exact ha _ h1.mem
                 · exact ih p hp
  | e h1 h2 _ ih => intro p hp; rcases List.mem_cons.1 hp with rfl | hp
                    · exact h2 ▸ ha _ h1.mem
                    · exact ih p hp
def Val (T : Slots) (x : Operand) (v : Value) : Prop := ∀ a : Act, Holds T a → a.eval x = v
theorem Val.t {T : Slots} {s : Nat} {v : Value} (h : Get T (s, v)) : Val T (.tmp s) v := fun a ha => by
  have := ha _ h.mem
  simp only [Act.eval, Array.getD_eq_getD_getElem?, this, Option.getD_some]
theorem Val.c {T : Slots} {v : Value} : Val T (.const v) v := fun _ _ => rfl
theorem Val.f {T : Slots} {f : FuncId} : Val T (.func f) (.func (.func f) #[] #[]) := fun _ _ => rfl
def fresh (d : Nat) (T : Slots) : Bool := T.all fun p => p.1 != d
theorem Holds.put {T : Slots} {a : Act} (h : Holds T a) {d : Nat} {v : Value} (hd : d < a.tmps.size) (hf : fresh d T = true) : Holds ((d, v) :: T) (a.put (some d) v) := by
  intro p hp
  rcases List.mem_cons.1 hp with rfl | hp
  · simp [Act.put, hd]
  · have hne : p.1 ≠ d := by have := List.all_eq_true.1 hf p hp; simpa using this
    have := h p hp
    simp only [Act.put, Array.getElem?_setIfInBounds]
    rw [if_neg (fun e => hne e.symm)]
    exact this
theorem put_size (a : Act) (d : Option Nat) (v : Value) : (a.put d v).tmps.size = a.tmps.size := by cases d <;> simp [Act.put]
theorem put_defers (a : Act) (d : Option Nat) (v : Value) : (a.put d v).defers = a.defers := by cases d <;> rfl

/-! ### The judgement -/
def WS (w0 : World) (S0 : Bs) (l : List Asn) (w : World) : Prop := ∃ S : Bs, Star l w S ∧ (∀ b, S b → S0 b ∨ w0.heap.size ≤ b) ∧ Fr w0 S0 w
def FJ (N : Nat) (w0 : World) (S0 : Bs) (F : Act → World → Prop) (T : Slots) (l : List Asn) : Prop :=
  ∀ (a : Act) (w : World), a.defers = [] → a.tmps.size = N → Holds T a → WS w0 S0 l w → F a w

def TriPost (w0 : World) (S0 : Bs) (R : Value → List Asn → Prop) (e : Ending) (w' : World) : Prop :=
  ∃ (r : Value) (l' : List Asn), e = .returned r ∧ R r l' ∧ WS w0 S0 l' w'
/-- What is there and not owned. -/
def FF (w0 : World) (S0 : Bs) : Bs := fun b => b < w0.heap.size ∧ ¬ S0 b
/-- What a caller hands on: what it was given to read, and what its other chunks let read. -/
structure Tr (w0 : World) (S0 : Bs) (w : World) (S1 : Bs) (lr : List Asn) : Prop where
  ctx : ∀ {α : Type} {K : Kd α} {x : α} {cs : List Value}, K.ro w0 (FF w0 S0) x cs → K.ro w (FF w S1) x cs
  own : ∀ {α : Type} {K : Kd α} {x : α} {cs : List Value} {l : List Asn}, Take lr (ownA K x cs) l → K.ro w (FF w S1) x cs
  all : ∃ S2 : Bs, Star lr w S2 ∧ (∀ b, S2 b → FF w S1 b)
  wide : ∀ b, FF w0 S0 b → FF w S1 b ∧ w.heap[b]? = w0.heap[b]?

section
variable {N : Nat} {w0 : World} {S0 : Bs} {F : Act → World → Prop} {T : Slots} {l : List Asn} {P : Program} {Q : Exit → Act → World → Prop}

theorem WS.take {c : Asn} {l' : List Asn} {w : World} (h : Take l c l') : WS w0 S0 l w → WS w0 S0 (c :: l') w := fun ⟨S, a, b, c⟩ => ⟨S, a.take h, b, c⟩
theorem WS.takes {cs l' : List Asn} {w : World} (h : Takes l cs l') : WS w0 S0 l w → WS w0 S0 (cs ++ l') w := fun ⟨S, a, b, c⟩ => ⟨S, a.takes h, b, c⟩
theorem WS.drop {c : Asn} {w : World} : WS w0 S0 (c :: l) w → WS w0 S0 l w := fun ⟨S, a, b, c⟩ => ⟨S, a.drop, b, c⟩
theorem WS.sb {k : List Asn} {w : World} (h : Sb l k) : WS w0 S0 l w → WS w0 S0 k w := fun ⟨S, a, b, c⟩ => ⟨S, a.sb h, b, c⟩

theorem FJ.take {c : Asn} {l' : List Asn} (h : Take l c l') (k : FJ N w0 S0 F T (c :: l')) : FJ N w0 S0 F T l := fun a w h1 h2 h3 h4 => k a w h1 h2 h3 (h4.take h)
theorem FJ.takes {cs l' : List Asn} (h : Takes l cs l') (k : FJ N w0 S0 F T (cs ++ l')) : FJ N w0 S0 F T l := fun a w h1 h2 h3 h4 => k a w h1 h2 h3 (h4.takes h)
theorem FJ.drop {c : Asn} (k : FJ N w0 S0 F T l) : FJ N w0 S0 F T (c :: l) := fun a w h1 h2 h3 h4 => k a w h1 h2 h3 h4.drop
theorem FJ.keep {T' : Slots} (h : Sub T T') (k : FJ N w0 S0 F T' l) : FJ N w0 S0 F T l := fun a w h1 h2 h3 h4 => k a w h1 h2 (h.holds h3) h4
theorem FJ.er {p : Nat × Value} {T' : Slots} (h : Er T p T') (k : FJ N w0 S0 F T' l) : FJ N w0 S0 F T l := fun a w h1 h2 h3 h4 => k a w h1 h2 (fun x hx => h3 x (h.sub x hx)) h4
theorem FJ.eq {s : Nat} {v v' : Value} {T' : Slots} (h : Er T (s, v) T') (e : v = v') (k : FJ N w0 S0 F ((s, v') :: T') l) : FJ N w0 S0 F T l := by
  subst e
  exact fun a w h1 h2 h3 h4 => k a w h1 h2 (fun x hx => by
    rcases List.mem_cons.1 hx with rfl | hx
    · exact h3 _ h.mem
    · exact h3 _ (h.sub x hx)) h4
/-- What the chunks tell of every world. -/
theorem FJ.know {p : Prop} (h : ∀ w, WS w0 S0 l w → p) (k : p → FJ N w0 S0 F T l) : FJ N w0 S0 F T l := fun a w h1 h2 h3 h4 => k (h w h4) a w h1 h2 h3 h4
/-- A chunk in another form. -/
theorem FJ.turn {c : Asn} {cs l' : List Asn} (h : Take l c l') (hc : ∀ w S, c.p w S → Star cs w S) (k : FJ N w0 S0 F T (cs ++ l')) : FJ N w0 S0 F T l := by
  intro a w h1 h2 h3 h4
  obtain ⟨S, hs, hb, hf⟩ := h4.take h
  obtain ⟨A, B, hc1, hl, i1, i2, d⟩ := hs
  exact k a w h1 h2 h3 ⟨S, (hc _ _ hc1).app hl i1 i2 d, hb, hf⟩
theorem FJ.turns {c : Asn} {cs l' : List Asn} (h : Takes l cs l') (hc : ∀ w S, Star cs w S → c.p w S) (k : FJ N w0 S0 F T (c :: l')) : FJ N w0 S0 F T l := by
  intro a w h1 h2 h3 h4
  obtain ⟨S, hs, hb, hf⟩ := h4.takes h
  obtain ⟨A, B, hc1, hl, i1, i2, d⟩ := hs.split
  exact k a w h1 h2 h3 ⟨S, ⟨A, B, hc _ _ hc1, hl, i1, i2, d⟩, hb, hf⟩
/-- The same chunk, its datum spelled otherwise. -/
theorem FJ.ceq {α : Type} {K : Kd α} {x x' : α} {cs : List Value} {l' : List Asn} (h : Take l (ownA K x cs) l') (e : x = x') (k : FJ N w0 S0 F T (ownA K x' cs :: l')) : FJ N w0 S0 F T l := by subst e; exact FJ.take h k
/-- Several chunks in another form, with something found out. -/
theorem FJ.open {cs l' : List Asn} {γ : Type} {G : γ → List Asn} {φ : γ → Prop} (h : Takes l cs l') (hc : ∀ w S, Star cs w S → ∃ g, φ g ∧ Star (G g) w S) (k : ∀ g, φ g → FJ N w0 S0 F T (G g ++ l')) : FJ N w0 S0 F T l := by
  intro a w h1 h2 h3 h4
  obtain ⟨S, hs, hb, hf⟩ := h4.takes h
  obtain ⟨A, B, hc1, hl, i1, i2, d⟩ := hs.split
  obtain ⟨g, hg, hs'⟩ := hc _ _ hc1
  exact k g hg a w h1 h2 h3 ⟨S, hs'.app hl i1 i2 d, hb, hf⟩

/-- Chunks picked out and put in order; the others are let go. -/
theorem WS.sel {cs r : List Asn} {w : World} (h : Takes l cs r) : WS w0 S0 l w → WS w0 S0 cs w := fun hw => by
  obtain ⟨S, a, b, c⟩ := hw.takes h
  obtain ⟨A, _, h1, _, h2, _, _⟩ := a.split
  exact ⟨S, h1.up h2, b, c⟩
theorem FJ.sel {cs r : List Asn} (h : Takes l cs r) (k : FJ N w0 S0 F T cs) : FJ N w0 S0 F T l := fun a w h1 h2 h3 h4 => k a w h1 h2 h3 (h4.sel h)
/-- A chunk that asks for no memory. -/
theorem FJ.add {c : Asn} (h : ∀ w S, c.p w S) (k : FJ N w0 S0 F T (c :: l)) : FJ N w0 S0 F T l := fun a w h1 h2 h3 ⟨S, hs, hb, hf⟩ =>
  k a w h1 h2 h3 ⟨S, ⟨fun _ => False, S, h w _, hs, fun _ h => h.elim, fun _ h => h, fun _ h => h.elim⟩, hb, hf⟩
inductive Cat : List Asn → List Asn → List Asn → Prop
  | n {l : List Asn} : Cat [] l l
  | c {x : Asn} {l1 l2 l3 : List Asn} : Cat l1 l2 l3 → Cat (x :: l1) l2 (x :: l3)
theorem Cat.eq {l1 l2 l3 : List Asn} (h : Cat l1 l2 l3) : l1 ++ l2 = l3 := by
  induction h with
  | n => rfl
  | c _ ih => simp [ih]
theorem FJ.cat {l1 l2 l3 : List Asn} (h : Cat l1 l2 l3) (k : FJ N w0 S0 F T l3) : FJ N w0 S0 F T (l1 ++ l2) := by rw [h.eq]; exact k

/-! #### Code -/
theorem FJ.seq {x y : Code} (h : FJ N w0 S0 (x.wp P (Exit.then (y.wp P Q) Q)) T l) : FJ N w0 S0 ((Code.seq x y).wp P Q) T l := fun a w h1 h2 h3 h4 => wp_seq (h a w h1 h2 h3 h4)
theorem FJ.seqk {x y : Code} (h : ∀ K : Act → World → Prop, (∀ T' l', FJ N w0 S0 (y.wp P Q) T' l' → FJ N w0 S0 K T' l') → FJ N w0 S0 (x.wp P (Exit.then K Q)) T l) : FJ N w0 S0 ((Code.seq x y).wp P Q) T l :=
  FJ.seq (h _ fun _ _ h => h)
theorem FJ.region {id : Nat} {os : List Oper} (h : FJ N w0 S0 (wpList P os.toArray Q os) T l) : FJ N w0 S0 ((Code.region id os.toArray false).wp P Q) T l := fun a w h1 h2 h3 h4 => wp_region_lit (h a w h1 h2 h3 h4)
theorem FJ.nil {ops : Array Oper} (h : FJ N w0 S0 (Q .normal) T l) : FJ N w0 S0 (wpList P ops Q []) T l := h
theorem FJ.then_ {K : Act → World → Prop} (h : FJ N w0 S0 K T l) : FJ N w0 S0 (Exit.then K Q .normal) T l := h
theorem FJ.thenE {K : Act → World → Prop} {i : Nat} (h : FJ N w0 S0 (Q (.exit i)) T l) : FJ N w0 S0 (Exit.then K Q (.exit i)) T l := h
theorem FJ.thenR {K : Act → World → Prop} (h : FJ N w0 S0 (Q .ret) T l) : FJ N w0 S0 (Exit.then K Q .ret) T l := h
theorem FJ.inB {i : Nat} (h : FJ N w0 S0 (Q .normal) T l) : FJ N w0 S0 (Exit.inBlock i Q (.exit i)) T l := fun a w h1 h2 h3 h4 => by
  simp only [Exit.inBlock, if_true]; exact h a w h1 h2 h3 h4
theorem FJ.inBne {i j : Nat} (hne : j ≠ i) (h : FJ N w0 S0 (Q (.exit j)) T l) : FJ N w0 S0 (Exit.inBlock i Q (.exit j)) T l := fun a w h1 h2 h3 h4 => by
  simp only [Exit.inBlock, if_neg hne]; exact h a w h1 h2 h3 h4
theorem FJ.inBR {i : Nat} (h : FJ N w0 S0 (Q .ret) T l) : FJ N w0 S0 (Exit.inBlock i Q .ret) T l := h
theorem FJ.inBN {i : Nat} (h : FJ N w0 S0 (Q .normal) T l) : FJ N w0 S0 (Exit.inBlock i Q .normal) T l := h
theorem FJ.skip (h : FJ N w0 S0 (Q .normal) T l) : FJ N w0 S0 (Code.skip.wp P Q) T l := fun a w h1 h2 h3 h4 => wp_skip (h a w h1 h2 h3 h4)
theorem FJ.ret (h : FJ N w0 S0 (Q .ret) T l) : FJ N w0 S0 (Code.ret.wp P Q) T l := fun a w h1 h2 h3 h4 => wp_ret (h a w h1 h2 h3 h4)
theorem FJ.exit {i : Nat} (h : FJ N w0 S0 (Q (.exit i)) T l) : FJ N w0 S0 ((Code.exit i).wp P Q) T l := fun a w h1 h2 h3 h4 => wp_exit (h a w h1 h2 h3 h4)
theorem FJ.block {i : Nat} {c : Code} (h : FJ N w0 S0 (c.wp P (Exit.inBlock i Q)) T l) : FJ N w0 S0 ((Code.block i c).wp P Q) T l := fun a w h1 h2 h3 h4 => wp_block (h a w h1 h2 h3 h4)
theorem FJ.condT {c : Operand} {x y : Code} (hv : Val T c (.bool true)) (h : FJ N w0 S0 (x.wp P Q) T l) : FJ N w0 S0 ((Code.cond c x y).wp P Q) T l := fun a w h1 h2 h3 h4 => wp_cond_true (hv a h3) (h a w h1 h2 h3 h4)
theorem FJ.condF {c : Operand} {x y : Code} (hv : Val T c (.bool false)) (h : FJ N w0 S0 (y.wp P Q) T l) : FJ N w0 S0 ((Code.cond c x y).wp P Q) T l := fun a w h1 h2 h3 h4 => wp_cond_false (hv a h3) (h a w h1 h2 h3 h4)
theorem FJ.cond {c : Operand} {x y : Code} {b : Bool} (hv : Val T c (.bool b)) (ht : b = true → FJ N w0 S0 (x.wp P Q) T l) (hf : b = false → FJ N w0 S0 (y.wp P Q) T l) : FJ N w0 S0 ((Code.cond c x y).wp P Q) T l :=
  fun a w h1 h2 h3 h4 => wp_cond_split (hv a h3) (fun h => ht h a w h1 h2 h3 h4) (fun h => hf h a w h1 h2 h3 h4)
theorem FJ.condP {c : Operand} {x y : Code} {p : Prop} [Decidable p] (hv : Val T c (.bool (decide p))) (ht : p → FJ N w0 S0 (x.wp P Q) T l) (hf : ¬ p → FJ N w0 S0 (y.wp P Q) T l) : FJ N w0 S0 ((Code.cond c x y).wp P Q) T l :=
  FJ.cond hv (fun h => ht (of_decide_eq_true h)) (fun h => hf (of_decide_eq_false h))
theorem FJ.condN {c : Operand} {x y : Code} {p : Prop} [Decidable p] (hv : Val T c (.bool (!decide p))) (ht : ¬ p → FJ N w0 S0 (x.wp P Q) T l) (hf : p → FJ N w0 S0 (y.wp P Q) T l) : FJ N w0 S0 ((Code.cond c x y).wp P Q) T l :=
  FJ.cond hv (fun h => ht (by simpa using h)) (fun h => hf (by simpa using h))

/-- A loop: what holds at each round's head, a family over γ; each round lowers μ. -/
theorem FJ.loop {c : Code} {γ : Type} (Tm : γ → Slots) (lm : γ → List Asn) (φ : γ → Prop) (μ : γ → Nat)
    (round : ∀ g, φ g → FJ N w0 S0 (c.wp P (Exit.then (fun a w => a.defers = [] ∧ a.tmps.size = N ∧ ∃ g', φ g' ∧ μ g' < μ g ∧ Holds (Tm g') a ∧ WS w0 S0 (lm g') w) Q)) (Tm g) (lm g))
    (g0 : γ) (h0 : φ g0) : FJ N w0 S0 ((Code.loop c).wp P Q) (Tm g0) (lm g0) := by
  intro a w h1 h2 h3 h4 b k cs
  have key : ∀ n g, μ g = n → φ g → ∀ a w, a.defers = [] → a.tmps.size = N → Holds (Tm g) a → WS w0 S0 (lm g) w →
      ∃ e a' w', Q e a' w' ∧ Arrives P (Go.lone (b.at a (.code c :: .inLoop c :: k)) cs w) b k cs e a' w' := by
    intro n
    induction n using Nat.strongRecOn with
    | _ n ih =>
      intro g hn hg a w h1 h2 h3 h4
      obtain ⟨e, a₁, w₁, hq, harr⟩ := round g hg a w h1 h2 h3 h4 b (.inLoop c :: k) cs
      cases e with
      | normal =>
        obtain ⟨k1, k2, g', hg', hlt, k3, k4⟩ := hq
        obtain ⟨e₂, a₂, w₂, hq₂, harr₂⟩ := ih (μ g') (hn ▸ hlt) g' rfl hg' a₁ w₁ k1 k2 k3 k4
        exact ⟨e₂, a₂, w₂, hq₂, .of_steps (Steps.trans harr (.one step_inLoop)) harr₂⟩
      | exit id => exact ⟨_, a₁, w₁, hq, .pass (x := .inLoop c) rfl (fun _ _ => .inl (by simp)) harr⟩
      | goto l => exact ⟨_, a₁, w₁, hq, .pass (x := .inLoop c) rfl (fun _ _ => .inl (by simp)) harr⟩
      | ret => exact ⟨_, a₁, w₁, hq, .pass (x := .inLoop c) rfl (fun _ _ => .inl (by simp)) harr⟩
      | panic ch => exact ⟨_, a₁, w₁, hq, .pass (x := .inLoop c) rfl (fun _ _ => .inl (by simp)) harr⟩
      | outgrown => exact ⟨_, a₁, w₁, hq, .pass (x := .inLoop c) rfl (fun _ _ => .inl (by simp)) harr⟩
  obtain ⟨e, a', w', hq, harr⟩ := key _ g0 rfl h0 a w h1 h2 h3 h4
  exact ⟨e, a', w', hq, .of_steps (.one step_loop) harr⟩
theorem FJ.loopi {c : Code} {γ : Type} (Tm : γ → Slots) (lm : γ → List Asn) (φ : γ → Prop) (μ : γ → Nat) (g0 : γ) (h0 : φ g0) (hT : Sub T (Tm g0)) (hl : ∀ w, WS w0 S0 l w → WS w0 S0 (lm g0) w)
    (round : ∀ g, φ g → FJ N w0 S0 (c.wp P (Exit.then (fun a w => a.defers = [] ∧ a.tmps.size = N ∧ ∃ g', φ g' ∧ μ g' < μ g ∧ Holds (Tm g') a ∧ WS w0 S0 (lm g') w) Q)) (Tm g) (lm g)) : FJ N w0 S0 ((Code.loop c).wp P Q) T l :=
  fun a w h1 h2 h3 h4 => FJ.loop Tm lm φ μ round g0 h0 a w h1 h2 (hT.holds h3) (hl w h4)
theorem FJ.again {γ : Type} {Tm : γ → Slots} {lm : γ → List Asn} {φ : γ → Prop} {μ : γ → Nat} {n : Nat} (g' : γ) (hg : φ g') (hm : μ g' < n) (hT : Sub T (Tm g')) (hl : ∀ w, WS w0 S0 l w → WS w0 S0 (lm g') w) :
    FJ N w0 S0 (Exit.then (fun a w => a.defers = [] ∧ a.tmps.size = N ∧ ∃ g', φ g' ∧ μ g' < n ∧ Holds (Tm g') a ∧ WS w0 S0 (lm g') w) Q .normal) T l :=
  fun _ w h1 h2 h3 h4 => ⟨h1, h2, g', hg, hm, hT.holds h3, hl w h4⟩

/-! #### A call, a return -/
theorem args_holds {args : Array Value} {n : Nat} {T : Slots} (h : ∀ p, p ∈ T → args[p.1]? = some p.2) : Holds T { tmps := args ++ Array.replicate n undef, defers := [] } := by
  intro p hp
  have := h p hp
  have hlt : p.1 < args.size := (Array.getElem?_eq_some_iff.1 this).1
  simp only [Array.getElem?_append, if_pos hlt, this]
theorem FJ.enter {f : FuncId} {fn : Func} {c : Code} {args : Array Value} {l0 : List Asn} {R : Value → List Asn → Prop} (hf : P.funcs[f]? = some fn) (hb : fn.body = some c) (hN : fn.ntmps = N) (hsz : args.size ≤ N)
    (T : Slots) (hT : ∀ p, p ∈ T → args[p.1]? = some p.2) (hs : Star l0 w0 S0) (h : FJ N w0 S0 (c.wp P (bodyPost P fn (TriPost w0 S0 R))) T l0) : Calls P f args w0 (TriPost w0 S0 R) := by
  refine calls_of_wp hf hb ?_
  refine h _ _ rfl ?_ (args_holds hT) ⟨S0, hs, fun b hb => .inl hb, Fr.refl _ _⟩
  simp only [Array.size_append, Array.size_replicate]
  omega
theorem FJ.done {fn : Func} {R : Value → List Asn → Prop} {v : Value} (hr : ∀ (a : Act) (w : World), Holds T a → WS w0 S0 l w → (results fn a.tmps).run P w = .ok v w) (h : R v l) : FJ N w0 S0 (bodyPost P fn (TriPost w0 S0 R) .ret) T l :=
  fun a w h1 _ h3 h4 => ⟨h1, v, hr a w h3 h4, v, l, rfl, h, h4⟩
theorem FJ.doneN {fn : Func} {R : Value → List Asn → Prop} {v : Value} (hr : ∀ (a : Act) (w : World), Holds T a → WS w0 S0 l w → (results fn a.tmps).run P w = .ok v w) (h : R v l) : FJ N w0 S0 (bodyPost P fn (TriPost w0 S0 R) .normal) T l :=
  fun a w h1 _ h3 h4 => ⟨h1, v, hr a w h3 h4, v, l, rfl, h, h4⟩
theorem FJ.doneS {fn : Func} {R : Value → List Asn → Prop} {v : Value} {cs r : List Asn} (hr : ∀ (a : Act) (w : World), Holds T a → WS w0 S0 l w → (results fn a.tmps).run P w = .ok v w) (ht : Takes l cs r) (h : R v cs) : FJ N w0 S0 (bodyPost P fn (TriPost w0 S0 R) .ret) T l :=
  fun a w h1 _ h3 h4 => ⟨h1, v, hr a w h3 h4, v, cs, rfl, h, h4.sel ht⟩
theorem FJ.doneSN {fn : Func} {R : Value → List Asn → Prop} {v : Value} {cs r : List Asn} (hr : ∀ (a : Act) (w : World), Holds T a → WS w0 S0 l w → (results fn a.tmps).run P w = .ok v w) (ht : Takes l cs r) (h : R v cs) : FJ N w0 S0 (bodyPost P fn (TriPost w0 S0 R) .normal) T l :=
  fun a w h1 _ h3 h4 => ⟨h1, v, hr a w h3 h4, v, cs, rfl, h, h4.sel ht⟩
theorem slot_of {a : Act} {s : Nat} {v : Value} (h : Get T (s, v)) (ha : Holds T a) : a.tmps.getD s undef = v := Val.t h a ha
theorem res1 {fn : Func} {s : Nat} {v : Value} (hr : fn.results = #[.tmp s]) (h : Get T (s, v)) : ∀ (a : Act) (w : World), Holds T a → WS w0 S0 l w → (results fn a.tmps).run P w = .ok v w :=
  fun a w ha _ => by rw [results_tmp hr, slot_of h ha]
theorem res0 {fn : Func} (hr : fn.results = #[]) : ∀ (a : Act) (w : World), Holds T a → WS w0 S0 l w → (results fn a.tmps).run P w = .ok (.tuple #[]) w :=
  fun a w _ _ => results_none hr _ _ _
theorem res2 {fn : Func} {s t : Nat} {v u : Value} (hr : fn.results = #[.tmp s, .tmp t]) (h : Get T (s, v)) (k : Get T (t, u)) : ∀ (a : Act) (w : World), Holds T a → WS w0 S0 l w → (results fn a.tmps).run P w = .ok (.tuple #[v, u]) w :=
  fun a w ha _ => by rw [results_tmp2 hr, slot_of h ha, slot_of k ha]
theorem res3 {fn : Func} {s t q : Nat} {v u x : Value} (hr : fn.results = #[.tmp s, .tmp t, .tmp q]) (h : Get T (s, v)) (k : Get T (t, u)) (j : Get T (q, x)) : ∀ (a : Act) (w : World), Holds T a → WS w0 S0 l w → (results fn a.tmps).run P w = .ok (.tuple #[v, u, x]) w :=
  fun a w ha _ => by
    have e1 := slot_of h ha
    have e2 := slot_of k ha
    have e3 := slot_of j ha
    simp only [Array.getD_eq_getD_getElem?] at e1 e2 e3
    simp [results, hr, e1, e2, e3]

/-! #### Operations -/
def Quiet (P : Program) (o : Oper) (T : Slots) (Wd : World → Prop) (v : Value) : Prop := ∀ (a : Act) (w : World), Holds T a → Wd w → (execOp a.eval o).run P w = .ok (.value v) w
def Eff (P : Program) (o : Oper) (T : Slots) (w0 : World) (S0 : Bs) (l : List Asn) (R : Value → List Asn → Prop) : Prop :=
  ∀ (a : Act) (w : World), Holds T a → WS w0 S0 l w → ∃ (v : Value) (w' : World) (l' : List Asn), (execOp a.eval o).run P w = .ok (.value v) w' ∧ R v l' ∧ WS w0 S0 l' w'
def EffS (P : Program) (o : Oper) (T : Slots) (w0 : World) (S0 : Bs) (l : List Asn) (l' : List Asn) : Prop :=
  ∀ (a : Act) (w : World), Holds T a → WS w0 S0 l w → ∃ (w' : World), (execOp a.eval o).run P w = .ok .skip w' ∧ WS w0 S0 l' w'
def CallE (P : Program) (o : Oper) (T : Slots) (f : FuncId) (args : Array Value) : Prop := ∀ (a : Act) (w : World), Holds T a → (execOp a.eval o).run P w = .ok (.enter f args) w

/-- What goes on behind an operation: the same for a list of operations and for an order that was picked. -/
structure Goes (P : Program) (N : Nat) (T : Slots) (o : Oper) (F : Act → World → Prop) (F' : Act → World → Prop) : Prop where
  value : ∀ (a : Act) (w : World) (v : Value) (w' : World), a.tmps.size = N → Holds T a → (execOp a.eval o).run P w = .ok (.value v) w' → F' (a.put o.dst v) w' → F a w
  skip : ∀ (a : Act) (w : World) (w' : World), a.tmps.size = N → Holds T a → (execOp a.eval o).run P w = .ok .skip w' → F' (a.put o.dst undef) w' → F a w
  enter : ∀ (a : Act) (w : World) (f : FuncId) (args : Array Value) (w' : World) (R : Value → World → Prop), a.tmps.size = N → Holds T a → (execOp a.eval o).run P w = .ok (.enter f args) w' →
    Calls P f args w' (fun e w'' => ∃ r, e = .returned r ∧ R r w'') → (∀ r w'', R r w'' → F' (a.put o.dst r) w'') → F a w

theorem goes_of {o : Oper} {F F' : Act → World → Prop} {Q : Exit → Act → World → Prop} (h : ∀ (a : Act) (w : World), a.tmps.size = N → Holds T a → o.wp P a w F' Q → F a w) : Goes P N T o F F' where
  value a w v w' hN hT hr hk := h a w hN hT (by unfold Oper.wp; rw [hr]; exact hk)
  skip a w w' hN hT hr hk := h a w hN hT (by unfold Oper.wp; rw [hr]; exact hk)
  enter a w f args w' R hN hT hr hc hk := h a w hN hT (by unfold Oper.wp; rw [hr]; exact hc.mono fun e w'' ⟨r, he, hR⟩ => by subst he; exact hk r w'' hR)
theorem goes_list {ops : Array Oper} {o : Oper} {rest : List Oper} (hg : o.guard = none) : Goes P N T o (wpList P ops Q (o :: rest)) (wpList P ops Q rest) :=
  goes_of (Q := Q) fun a w _ _ h => wpList_plain hg fun _ hK => Oper.wp_mono hK h

theorem FJ.q {o : Oper} {F F' : Act → World → Prop} {d : Nat} {v : Value} (hG : Goes P N T o F F') (hd : o.dst = some d) (hN : d < N) (hf : fresh d T = true) (hq : Quiet P o T (WS w0 S0 l) v) (h : FJ N w0 S0 F' ((d, v) :: T) l) : FJ N w0 S0 F T l := by
  intro a w h1 h2 h3 h4
  refine hG.value a w v w h2 h3 (hq a w h3 h4) ?_
  rw [hd]
  exact h _ w (by rw [put_defers]; exact h1) (by rw [put_size]; exact h2) (h3.put (by omega) hf) h4
theorem FJ.e {o : Oper} {F F' : Act → World → Prop} {d : Nat} {R : Value → List Asn → Prop} (hG : Goes P N T o F F') (hd : o.dst = some d) (hN : d < N) (hf : fresh d T = true) (he : Eff P o T w0 S0 l R) (h : ∀ v l', R v l' → FJ N w0 S0 F' ((d, v) :: T) l') : FJ N w0 S0 F T l := by
  intro a w h1 h2 h3 h4
  obtain ⟨v, w', l', hr, hR, hw⟩ := he a w h3 h4
  refine hG.value a w v w' h2 h3 hr ?_
  rw [hd]
  exact h v l' hR _ w' (by rw [put_defers]; exact h1) (by rw [put_size]; exact h2) (h3.put (by omega) hf) hw
theorem FJ.es {o : Oper} {F F' : Act → World → Prop} {l' : List Asn} (hG : Goes P N T o F F') (hd : o.dst = none) (he : EffS P o T w0 S0 l l') (h : FJ N w0 S0 F' T l') : FJ N w0 S0 F T l := by
  intro a w h1 h2 h3 h4
  obtain ⟨w', hr, hw⟩ := he a w h3 h4
  refine hG.skip a w w' h2 h3 hr ?_
  rw [hd]
  exact h _ w' h1 h2 h3 hw
/-- The call's own chunks aside, those of the rest stay. -/
theorem WS.frame {lc lr : List Asn} {w : World} (h : WS w0 S0 (lc ++ lr) w) : ∃ S1 : Bs, Star lc w S1 ∧ Tr w0 S0 w S1 lr ∧ ∀ w' l', WS w S1 l' w' → WS w0 S0 (l' ++ lr) w' := by
  obtain ⟨S, hs, hb, hf⟩ := h
  obtain ⟨S1, S2, h1, h2, a, b, d⟩ := hs.split
  have h2' := h2.lt
  have hw : ∀ b, FF w0 S0 b → FF w S1 b ∧ w.heap[b]? = w0.heap[b]? := fun x hx => ⟨⟨Nat.lt_of_lt_of_le hx.1 hf.size, fun h => (hb x (a x h)).elim hx.2 (fun h => by have := hx.1; omega)⟩, hf.block x hx.1 hx.2⟩
  refine ⟨S1, h1, ⟨fun {α K x cs} hr => K.ro_up (K.ro_loc hr (fun b hb => (hw b hb).2)) (fun b hb => (hw b hb).1), fun {α K x cs l} ht => ?_, ⟨_, h2', fun b hb => ⟨hb.2, fun h => d b h hb.1⟩⟩, hw⟩, fun w' l' ⟨S', hs', hb', hf'⟩ => ?_⟩
  · have := K.own_ro (show K.own w _ x cs from (h2'.take ht).head)
    exact K.ro_up this (fun b hb => ⟨hb.2, fun h => d b h hb.1⟩)
  refine ⟨fun x => S' x ∨ (S2 x ∧ x < w.heap.size), ?_, ?_, ?_⟩
  · refine hs'.app (h2'.loc (fun x hx => hf'.block x hx.2 (fun e => d x e hx.1))) (fun _ h => .inl h) (fun _ h => .inr h) (fun x hx hy => ?_)
    rcases hb' x hx with h | h
    · exact d x h hy.1
    · omega
  · intro x hx
    rcases hx with hx | hx
    · rcases hb' x hx with h | h
      · exact hb x (a x h)
      · exact .inr (Nat.le_trans hf.size h)
    · exact hb x (b x hx.1)
  · exact hf.trans hf' (fun x hx => hb x (a x hx))
theorem FJ.call {o : Oper} {F F' : Act → World → Prop} {d : Nat} {f : FuncId} {args : Array Value} {lc lr : List Asn} {R : Value → List Asn → Prop} (hG : Goes P N T o F F') (hd : o.dst = some d) (hN : d < N) (hf : fresh d T = true)
    (hc : CallE P o T f args) (hT : Takes l lc lr) (ht : ∀ w S1, Star lc w S1 → Tr w0 S0 w S1 lr → Calls P f args w (TriPost w S1 R)) (h : ∀ v l', R v l' → FJ N w0 S0 F' ((d, v) :: T) (l' ++ lr)) : FJ N w0 S0 F T l := by
  intro a w h1 h2 h3 h4
  have h5 := h4.takes hT
  obtain ⟨S1, hs1, htr, hfr⟩ := h5.frame
  have hcall := ht w S1 hs1 htr
  refine hG.enter a w f args w (fun r w'' => ∃ l', R r l' ∧ WS w S1 l' w'') h2 h3 (hc a w h3) (hcall.mono fun e w' ⟨r, l', he, hR, hw⟩ => ⟨r, he, l', hR, hw⟩) ?_
  intro r w' ⟨l', hR, hw⟩
  rw [hd]
  exact h r l' hR _ w' (by rw [put_defers]; exact h1) (by rw [put_size]; exact h2) (h3.put (by omega) hf) (hfr w' l' hw)
theorem FJ.calln {o : Oper} {F F' : Act → World → Prop} {f : FuncId} {args : Array Value} {lc lr : List Asn} {R : Value → List Asn → Prop} (hG : Goes P N T o F F') (hd : o.dst = none)
    (hc : CallE P o T f args) (hT : Takes l lc lr) (ht : ∀ w S1, Star lc w S1 → Tr w0 S0 w S1 lr → Calls P f args w (TriPost w S1 R)) (h : ∀ v l', R v l' → FJ N w0 S0 F' T (l' ++ lr)) : FJ N w0 S0 F T l := by
  intro a w h1 h2 h3 h4
  have h5 := h4.takes hT
  obtain ⟨S1, hs1, htr, hfr⟩ := h5.frame
  have hcall := ht w S1 hs1 htr
  refine hG.enter a w f args w (fun r w'' => ∃ l', R r l' ∧ WS w S1 l' w'') h2 h3 (hc a w h3) (hcall.mono fun e w' ⟨r, l', he, hR, hw⟩ => ⟨r, he, l', hR, hw⟩) ?_
  intro r w' ⟨l', hR, hw⟩
  rw [hd]
  exact h r l' hR _ w' h1 h2 h3 (hfr w' l' hw)
end
end Go.Proofs.YtbcdcakcmdcafaaGreat

/- What is proved: assertions with footprints, their product; kinds of values, read and owned. No condition. -/
import Derived.WalkKit
import Derived.Below
import Derived.OrdersHeld
import Derived.Deep.RegionHeld3
import Derived.KernelRfl
import Derived.Laws.MakeOwn
import Derived.Laws.Rows
import Derived.Laws.Append
import Derived.Laws.CopyRow
namespace Go.Proofs.YtbcdcakcmdcafaaGreat
open Go Go.RowKit
set_option linter.unusedVariables false
set_option linter.unusedSimpArgs false

/-! ### Sets of blocks, assertions, their product -/
abbrev Bs := Nat → Prop

structure Asn where
  p : World → Bs → Prop
  up : ∀ {w : World} {S S' : Bs}, p w S → (∀ b, S b → S' b) → p w S'
  loc : ∀ {w w' : World} {S : Bs}, p w S → (∀ b, S b → w'.heap[b]? = w.heap[b]?) → p w' S
  lt : ∀ {w : World} {S : Bs}, p w S → p w (fun b => S b ∧ b < w.heap.size)

def Star : List Asn → World → Bs → Prop
  | [], _, _ => True
  | c :: l, w, S => ∃ S1 S2 : Bs, c.p w S1 ∧ Star l w S2 ∧ (∀ b, S1 b → S b) ∧ (∀ b, S2 b → S b) ∧ ∀ b, S1 b → ¬ S2 b

theorem Star.up : ∀ {l : List Asn} {w : World} {S S' : Bs}, Star l w S → (∀ b, S b → S' b) → Star l w S'
  | [], _, _, _, _, _ => trivial
  | _ :: _, _, _, _, ⟨S1, S2, h1, h2, a, b, d⟩, h => ⟨S1, S2, h1, h2, fun x hx => h x (a x hx), fun x hx => h x (b x hx), d⟩

theorem Star.loc : ∀ {l : List Asn} {w w' : World} {S : Bs}, Star l w S → (∀ b, S b → w'.heap[b]? = w.heap[b]?) → Star l w' S
  | [], _, _, _, _, _ => trivial
  | c :: _, _, _, _, ⟨S1, S2, h1, h2, a, b, d⟩, h => ⟨S1, S2, c.loc h1 (fun x hx => h x (a x hx)), Star.loc h2 (fun x hx => h x (b x hx)), a, b, d⟩

theorem Star.lt : ∀ {l : List Asn} {w : World} {S : Bs}, Star l w S → Star l w (fun b => S b ∧ b < w.heap.size)
  | [], _, _, _ => trivial
  | c :: _, w, _, ⟨S1, S2, h1, h2, a, b, d⟩ =>
    ⟨fun x => S1 x ∧ x < w.heap.size, fun x => S2 x ∧ x < w.heap.size, c.lt h1, Star.lt h2, fun x hx => ⟨a x hx.1, hx.2⟩, fun x hx => ⟨b x hx.1, hx.2⟩, fun x hx hy => d x hx.1 hy.1⟩

theorem Star.app : ∀ {l1 l2 : List Asn} {w : World} {S1 S2 S : Bs}, Star l1 w S1 → Star l2 w S2 → (∀ b, S1 b → S b) → (∀ b, S2 b → S b) → (∀ b, S1 b → ¬ S2 b) → Star (l1 ++ l2) w S
  | [], _, _, _, _, _, _, h2, _, b, _ => h2.up b
  | _ :: _, _, _, _, S2, _, ⟨A, B, hc, hl, a1, b1, d1⟩, h2, a, b, d =>
    ⟨A, fun x => B x ∨ S2 x, hc, Star.app hl h2 (fun _ h => .inl h) (fun _ h => .inr h) (fun x hx => d x (b1 x hx)), fun x hx => a x (a1 x hx), fun x hx => hx.elim (fun h => a x (b1 x h)) (b x),
      fun x hx hy => hy.elim (d1 x hx) (d x (a1 x hx))⟩

theorem Star.split : ∀ {l1 l2 : List Asn} {w : World} {S : Bs}, Star (l1 ++ l2) w S → ∃ S1 S2 : Bs, Star l1 w S1 ∧ Star l2 w S2 ∧ (∀ b, S1 b → S b) ∧ (∀ b, S2 b → S b) ∧ ∀ b, S1 b → ¬ S2 b
  | [], _, _, S, h => ⟨fun _ => False, S, trivial, h, fun _ h => h.elim, fun _ h => h, fun _ h => h.elim⟩
  | _ :: _, _, _, _, ⟨A, B, hc, hl, a, b, d⟩ => by
    obtain ⟨S1, S2, h1, h2, a1, b1, d1⟩ := Star.split hl
    exact ⟨fun x => A x ∨ S1 x, S2, ⟨A, S1, hc, h1, fun _ h => .inl h, fun _ h => .inr h, fun x hx hy => d x hx (a1 x hy)⟩, h2,
      fun x hx => hx.elim (a x) (fun h => b x (a1 x h)), fun x hx => b x (b1 x hx), fun x hx hy => hx.elim (fun h => d x h (b1 x hy)) (fun h => d1 x h hy)⟩

inductive Take : List Asn → Asn → List Asn → Prop
  | z {c : Asn} {l : List Asn} : Take (c :: l) c l
  | s {d : Asn} {l : List Asn} {c : Asn} {l' : List Asn} : Take l c l' → Take (d :: l) c (d :: l')

theorem Take.s4 {q0 q1 q2 q3 : Asn} {l : List Asn} {c : Asn} {l' : List Asn} (h : Take l c l') : Take (q0 :: q1 :: q2 :: q3 :: l) c (q0 :: q1 :: q2 :: q3 :: l') := .s (.s (.s (.s h)))
theorem Take.s16 {q0 q1 q2 q3 q4 q5 q6 q7 q8 q9 q10 q11 q12 q13 q14 q15 : Asn} {l : List Asn} {c : Asn} {l' : List Asn} (h : Take l c l') : Take (q0 :: q1 :: q2 :: q3 :: q4 :: q5 :: q6 :: q7 :: q8 :: q9 :: q10 :: q11 :: q12 :: q13 :: q14 :: q15 :: l) c (q0 :: q1 :: q2 :: q3 :: q4 :: q5 :: q6 :: q7 :: q8 :: q9 :: q10 :: q11 :: q12 :: q13 :: q14 :: q15 :: l') := .s (.s (.s (.s (.s (.s (.s (.s (.s (.s (.s (.s (.s (.s (.s (.s h)))))))))))))))
theorem Star.take {l : List Asn} {c : Asn} {l' : List Asn} (ht : Take l c l') : ∀ {w : World} {S : Bs}, Star l w S → Star (c :: l') w S := by
  induction ht with
  | z => exact fun h => h
  | s _ ih =>
    intro w S ⟨D, R, hd, hl, a, b, d⟩
    obtain ⟨C, R', hc, hl', a', b', d'⟩ := ih hl
    exact ⟨C, fun x => D x ∨ R' x, hc, ⟨D, R', hd, hl', fun _ h => .inl h, fun _ h => .inr h, fun x hx hy => d x hx (b' x hy)⟩,
      fun x hx => b x (a' x hx), fun x hx => hx.elim (a x) (fun h => b x (b' x h)), fun x hx hy => hy.elim (fun h => d x h (a' x hx)) (d' x hx)⟩

inductive Takes : List Asn → List Asn → List Asn → Prop
  | n {l : List Asn} : Takes l [] l
  | c {l : List Asn} {x : Asn} {l1 cs l2 : List Asn} : Take l x l1 → Takes l1 cs l2 → Takes l (x :: cs) l2

theorem Star.takes {l cs r : List Asn} (ht : Takes l cs r) : ∀ {w : World} {S : Bs}, Star l w S → Star (cs ++ r) w S := by
  induction ht with
  | n => exact fun h => h
  | c h1 _ ih =>
    intro w S h
    obtain ⟨A, B, hc, hl, a, b, d⟩ := h.take h1
    exact ⟨A, B, hc, ih hl, a, b, d⟩

theorem Star.drop {c : Asn} {l : List Asn} {w : World} {S : Bs} : Star (c :: l) w S → Star l w S := fun ⟨_, _, _, hl, _, b, _⟩ => hl.up b
theorem Star.head {c : Asn} {l : List Asn} {w : World} {S : Bs} : Star (c :: l) w S → c.p w S := fun ⟨_, _, hc, _, a, _, _⟩ => c.up hc a
theorem Star.one {c : Asn} {w : World} {S : Bs} (h : c.p w S) : Star [c] w S := ⟨S, fun _ => False, h, trivial, fun _ h => h, fun _ h => h.elim, fun _ _ h => h⟩

/-- What is behind: a suffix. -/
inductive Sb : List Asn → List Asn → Prop
  | z {l : List Asn} : Sb l l
  | s {c : Asn} {l k : List Asn} : Sb l k → Sb (c :: l) k
theorem Sb.s4 {q0 q1 q2 q3 : Asn} {l k : List Asn} (h : Sb l k) : Sb (q0 :: q1 :: q2 :: q3 :: l) k := .s (.s (.s (.s h)))
theorem Sb.s16 {q0 q1 q2 q3 q4 q5 q6 q7 q8 q9 q10 q11 q12 q13 q14 q15 : Asn} {l k : List Asn} (h : Sb l k) : Sb (q0 :: q1 :: q2 :: q3 :: q4 :: q5 :: q6 :: q7 :: q8 :: q9 :: q10 :: q11 :: q12 :: q13 :: q14 :: q15 :: l) k := .s (.s (.s (.s (.s (.s (.s (.s (.s (.s (.s (.s (.s (.s (.s (.s h)))))))))))))))
theorem Star.sb {l k : List Asn} (h : Sb l k) : ∀ {w : World} {S : Bs}, Star l w S → Star k w S := by
  induction h with
  | z => exact fun h => h
  | s _ ih => exact fun h => ih h.drop


/-! ### Kinds: what a value's cells say, read ('ro': the blocks that are looked at lie in F) and owned ('own': and nobody else leads into them) -/
structure Kd (α : Type) where
  sz : Nat
  pos : 0 < sz
  ro : World → Bs → α → List Value → Prop
  own : World → Bs → α → List Value → Prop
  ro_len : ∀ {w : World} {F : Bs} {x : α} {cs : List Value}, ro w F x cs → cs.length = sz
  ro_one : ∀ {w : World} {F : Bs} {x : α} {cs : List Value}, ro w F x cs → ∀ u, u ∈ cs → u.oneCell' = true
  ro_up : ∀ {w : World} {F F' : Bs} {x : α} {cs : List Value}, ro w F x cs → (∀ b, F b → F' b) → ro w F' x cs
  ro_loc : ∀ {w w' : World} {F : Bs} {x : α} {cs : List Value}, ro w F x cs → (∀ b, F b → w'.heap[b]? = w.heap[b]?) → ro w' F x cs
  own_ro : ∀ {w : World} {S : Bs} {x : α} {cs : List Value}, own w S x cs → ro w S x cs
  own_up : ∀ {w : World} {S S' : Bs} {x : α} {cs : List Value}, own w S x cs → (∀ b, S b → S' b) → own w S' x cs
  own_loc : ∀ {w w' : World} {S : Bs} {x : α} {cs : List Value}, own w S x cs → (∀ b, S b → w'.heap[b]? = w.heap[b]?) → own w' S x cs
  own_lt : ∀ {w : World} {S : Bs} {x : α} {cs : List Value}, own w S x cs → own w (fun b => S b ∧ b < w.heap.size) x cs
def ownA {α : Type} (K : Kd α) (x : α) (cs : List Value) : Asn := ⟨fun w S => K.own w S x cs, K.own_up, K.own_loc, K.own_lt⟩
theorem own_len {α : Type} {K : Kd α} {w : World} {S : Bs} {x : α} {cs : List Value} (h : K.own w S x cs) : cs.length = K.sz := K.ro_len (K.own_ro h)

def kscalar {α : Type} (enc : α → Value) (ok : α → Prop) (h1 : ∀ x, (enc x).oneCell' = true) : Kd α where
  sz := 1
  pos := Nat.one_pos
  ro _ _ x cs := cs = [enc x] ∧ ok x
  own _ _ x cs := cs = [enc x] ∧ ok x
  ro_len h := by rw [h.1]; rfl
  ro_one h u hu := by rw [h.1] at hu; obtain rfl := List.mem_singleton.1 hu; exact h1 _
  ro_up h _ := h
  ro_loc h _ := h
  own_ro h := h
  own_up h _ := h
  own_loc h _ := h
  own_lt h := h
def kint (k : IntKind) : Kd Int := kscalar (Value.int k) (fun _ => True) (fun _ => rfl)
def kbool : Kd Bool := kscalar Value.bool (fun _ => True) (fun _ => rfl)
def kstr : Kd ByteArray := kscalar Value.string (fun s => s.size ≤ 140737488351232) (fun _ => rfl)
def kbyte : Kd UInt8 := kscalar (fun b => Value.int .u8 b.toNat) (fun _ => True) (fun _ => rfl)

def kpair {α β : Type} (A : Kd α) (B : Kd β) : Kd (α × β) where
  sz := A.sz + B.sz
  pos := Nat.add_pos_left A.pos _
  ro w F x cs := ∃ c1 c2, cs = c1 ++ c2 ∧ A.ro w F x.1 c1 ∧ B.ro w F x.2 c2
  own w S x cs := ∃ c1 c2, cs = c1 ++ c2 ∧ Star [ownA A x.1 c1, ownA B x.2 c2] w S
  ro_len := by rintro w F x cs ⟨c1, c2, rfl, h1, h2⟩; rw [List.length_append, A.ro_len h1, B.ro_len h2]
  ro_one := by
    rintro w F x cs ⟨c1, c2, rfl, h1, h2⟩ u hu
    rcases List.mem_append.1 hu with h | h
    · exact A.ro_one h1 u h
    · exact B.ro_one h2 u h
  ro_up := by rintro w F F' x cs ⟨c1, c2, rfl, h1, h2⟩ h; exact ⟨c1, c2, rfl, A.ro_up h1 h, B.ro_up h2 h⟩
  ro_loc := by rintro w w' F x cs ⟨c1, c2, rfl, h1, h2⟩ h; exact ⟨c1, c2, rfl, A.ro_loc h1 h, B.ro_loc h2 h⟩
  own_ro := by
    rintro w S x cs ⟨c1, c2, rfl, h⟩
    exact ⟨c1, c2, rfl, A.own_ro h.head, B.own_ro h.drop.head⟩
  own_up := by rintro w S S' x cs ⟨c1, c2, rfl, h⟩ hs; exact ⟨c1, c2, rfl, h.up hs⟩
  own_loc := by rintro w w' S x cs ⟨c1, c2, rfl, h⟩ hs; exact ⟨c1, c2, rfl, h.loc hs⟩
  own_lt := by rintro w S x cs ⟨c1, c2, rfl, h⟩; exact ⟨c1, c2, rfl, h.lt⟩
def kiso {α β : Type} (K : Kd α) (f : β → α) : Kd β where
  sz := K.sz
  pos := K.pos
  ro w F x cs := K.ro w F (f x) cs
  own w S x cs := K.own w S (f x) cs
  ro_len h := K.ro_len h
  ro_one h := K.ro_one h
  ro_up h := K.ro_up h
  ro_loc h := K.ro_loc h
  own_ro h := K.own_ro h
  own_up h := K.own_up h
  own_loc h := K.own_loc h
  own_lt h := K.own_lt h

/-! #### rows -/
theorem flatten_at {css : List (List Value)} {n : Nat} (hl : ∀ c, c ∈ css → c.length = n) : ∀ {j : Nat} {c : List Value}, css[j]? = some c → ∀ i, i < n → css.flatten[j * n + i]? = c[i]? := by
  induction css with
  | nil => intro j c h; simp at h
  | cons d css ih =>
    intro j c h i hi
    have hd := hl d List.mem_cons_self
    cases j with
    | zero =>
      simp at h
      subst h
      simp only [List.flatten_cons, Nat.zero_mul, Nat.zero_add]
      rw [List.getElem?_append_left (by omega)]
    | succ j =>
      simp only [List.getElem?_cons_succ] at h
      simp only [List.flatten_cons]
      rw [List.getElem?_append_right (by rw [hd, Nat.succ_mul]; omega), hd]
      have e : (j + 1) * n + i - n = j * n + i := by rw [Nat.succ_mul]; omega
      rw [e]
      exact ih (fun c hc => hl c (List.mem_cons_of_mem _ hc)) h i hi
theorem flatten_len {css : List (List Value)} {n : Nat} (hl : ∀ c, c ∈ css → c.length = n) : css.flatten.length = css.length * n := by
  induction css with
  | nil => simp
  | cons d css ih =>
    simp only [List.flatten_cons, List.length_append, List.length_cons, ih (fun c hc => hl c (List.mem_cons_of_mem _ hc)), hl d List.mem_cons_self, Nat.succ_mul]
    omega
def seqA {α : Type} (K : Kd α) (xs : List α) (css : List (List Value)) : List Asn := List.zipWith (fun x c => ownA K x c) xs css
theorem seq_len {α : Type} {K : Kd α} : ∀ {xs : List α} {css : List (List Value)} {w : World} {S : Bs}, css.length = xs.length → Star (seqA K xs css) w S → ∀ c, c ∈ css → c.length = K.sz
  | [], [], _, _, _, _, c, hc => by cases hc
  | x :: xs, d :: css, w, S, hl, h, c, hc => by
    rcases List.mem_cons.1 hc with rfl | hc
    · exact own_len (show K.own w S x c from Star.head (c := ownA K x c) h)
    · exact seq_len (by simpa using hl) (Star.drop (c := ownA K x d) h) c hc
  | [], _ :: _, _, _, hl, _, _, _ => by simp at hl
theorem seq_at {α : Type} {K : Kd α} : ∀ {xs : List α} {css : List (List Value)} {w : World} {S : Bs}, Star (seqA K xs css) w S → ∀ {j : Nat} {x : α} {c : List Value}, xs[j]? = some x → css[j]? = some c → K.own w S x c
  | [], _, _, _, _, j, x, c, h, _ => by simp at h
  | _ :: _, [], _, _, _, j, x, c, _, h => by simp at h
  | y :: xs, d :: css, w, S, h, j, x, c, hx, hc => by
    cases j with
    | zero =>
      simp at hx hc
      subst hx; subst hc
      exact Star.head (c := ownA K y d) h
    | succ j => exact seq_at (Star.drop (c := ownA K y d) h) (by simpa using hx) (by simpa using hc)

/-- What is read of a row: its elements' cells from address ad on. -/
def RoAt {α : Type} (K : Kd α) (w : World) (F : Bs) (ad : Addr) (xs : List α) : Prop :=
  F ad.block ∧ ∀ (j : Nat) (x : α), xs[j]? = some x → ∃ ecs, K.ro w F x ecs ∧ ∀ i u, ecs[i]? = some u → w.cell? (ad.add (j * K.sz + i)) = some u
theorem add_block (a : Addr) (n : Nat) : (a.add n).block = a.block := by unfold Addr.add; split <;> rfl
theorem add_add (a : Addr) (i j : Nat) : (a.add i).add j = a.add (i + j) := by
  unfold Addr.add
  by_cases hi : i = 0
  · subst hi; simp
  · by_cases hj : j = 0
    · subst hj; simp
    · simp [hi, hj, Nat.add_assoc]
theorem cell_loc {w w' : World} {a : Addr} (h : w'.heap[a.block]? = w.heap[a.block]?) : w'.cell? a = w.cell? a := by simp [World.cell?, h]
theorem RoAt.loc {α : Type} {K : Kd α} {w w' : World} {F : Bs} {ad : Addr} {xs : List α} (h : RoAt K w F ad xs) (hl : ∀ b, F b → w'.heap[b]? = w.heap[b]?) : RoAt K w' F ad xs := by
  refine ⟨h.1, fun j x hx => ?_⟩
  obtain ⟨ecs, h1, h2⟩ := h.2 j x hx
  exact ⟨ecs, K.ro_loc h1 hl, fun i u hu => (cell_loc (by rw [add_block]; exact hl _ h.1)).trans (h2 i u hu)⟩
theorem RoAt.up {α : Type} {K : Kd α} {w : World} {F F' : Bs} {ad : Addr} {xs : List α} (h : RoAt K w F ad xs) (hl : ∀ b, F b → F' b) : RoAt K w F' ad xs :=
  ⟨hl _ h.1, fun j x hx => let ⟨ecs, h1, h2⟩ := h.2 j x hx; ⟨ecs, K.ro_up h1 hl, h2⟩⟩

/-- The block of a row of one's own: its cells, room for c elements of sz cells. -/
def rowA (g e sz c : Nat) (fl : List Value) : Asn where
  p w S := S g ∧ ∃ cur : Array Value, w.heap[g]? = some (.cells cur e (0, 0)) ∧ cur.size = c * sz ∧ fl.length ≤ cur.size ∧ cur.toList.take fl.length = fl
  up h hs := ⟨hs _ h.1, h.2⟩
  loc := by rintro w w' S ⟨h, cur, h1, h2⟩ hs; exact ⟨h, cur, by rw [hs g h]; exact h1, h2⟩
  lt := by rintro w S ⟨h, cur, h1, h2⟩; exact ⟨⟨h, (Array.getElem?_eq_some_iff.1 h1).1⟩, cur, h1, h2⟩

def kslice {α : Type} (e by_ : Nat) (K : Kd α) : Kd (List α) where
  sz := 1
  pos := Nat.one_pos
  ro w F xs cs := ∃ A c, cs = [.slice A xs.length c] ∧ xs.length ≤ c ∧ c ≤ 9223372036854775807 ∧ xs.length * by_ ≤ 140737488355328 ∧ (0 < xs.length → ∃ ad, A = some ad ∧ RoAt K w F ad xs)
  own w S xs cs := (∃ A, cs = [.slice A 0 0] ∧ xs = []) ∨
    ∃ g c css, cs = [.slice (some ⟨g, 0, none⟩) xs.length c] ∧ xs.length ≤ c ∧ c ≤ 9223372036854775807 ∧ xs.length * by_ ≤ 140737488355328 ∧ css.length = xs.length ∧ Star (rowA g e K.sz c css.flatten :: seqA K xs css) w S
  ro_len := by rintro w F x cs ⟨A, c, rfl, _⟩; rfl
  ro_one := by rintro w F x cs ⟨A, c, rfl, _⟩ u hu; obtain rfl := List.mem_singleton.1 hu; rfl
  ro_up := by rintro w F F' x cs ⟨A, c, rfl, h1, h2, h3, h4⟩ hs; exact ⟨A, c, rfl, h1, h2, h3, fun hp => let ⟨ad, ha, hr⟩ := h4 hp; ⟨ad, ha, hr.up hs⟩⟩
  ro_loc := by rintro w w' F x cs ⟨A, c, rfl, h1, h2, h3, h4⟩ hs; exact ⟨A, c, rfl, h1, h2, h3, fun hp => let ⟨ad, ha, hr⟩ := h4 hp; ⟨ad, ha, hr.loc hs⟩⟩
  own_ro := by
    rintro w S xs cs (⟨A, rfl, rfl⟩ | ⟨g, c, css, rfl, h1, h2, h3, h4, h5⟩)
    · exact ⟨A, 0, rfl, Nat.le_refl _, Nat.zero_le _, by simp, fun h => absurd h (Nat.lt_irrefl _)⟩
    · refine ⟨_, c, rfl, h1, h2, h3, fun hp => ⟨_, rfl, ?_⟩⟩
      have hseq := h5.drop
      have hl := seq_len h4 hseq
      obtain ⟨hS, cur, hc, hcs, hle, htk⟩ := h5.head
      refine ⟨hS, fun j x hx => ?_⟩
      have hj : j < css.length := by rw [h4]; exact (List.getElem?_eq_some_iff.1 hx).1
      have hcj : css[j]? = some css[j] := List.getElem?_eq_getElem hj
      refine ⟨css[j], K.own_ro (seq_at hseq hx hcj), fun i u hu => ?_⟩
      have hi : i < K.sz := by
        have := (List.getElem?_eq_some_iff.1 hu).1
        rw [hl _ (List.getElem_mem hj)] at this
        exact this
      have hf := flatten_at hl hcj i hi
      rw [hu] at hf
      have hadd : (⟨g, 0, none⟩ : Addr).add (j * K.sz + i) = ⟨g, j * K.sz + i, none⟩ := by unfold Addr.add; split <;> simp_all
      rw [hadd, cell_of_row w g _ cur e (0, 0) hc]
      rw [← htk, List.getElem?_take] at hf
      split at hf
      · simpa using hf
      · cases hf
  own_up := by
    rintro w S S' xs cs (h | ⟨g, c, css, rfl, h1, h2, h3, h4, h5⟩) hs
    · exact .inl h
    · exact .inr ⟨g, c, css, rfl, h1, h2, h3, h4, h5.up hs⟩
  own_loc := by
    rintro w w' S xs cs (h | ⟨g, c, css, rfl, h1, h2, h3, h4, h5⟩) hs
    · exact .inl h
    · exact .inr ⟨g, c, css, rfl, h1, h2, h3, h4, h5.loc hs⟩
  own_lt := by
    rintro w S xs cs (h | ⟨g, c, css, rfl, h1, h2, h3, h4, h5⟩)
    · exact .inl h
    · exact .inr ⟨g, c, css, rfl, h1, h2, h3, h4, h5.lt⟩
end Go.Proofs.YtbcdcakcmdcafaaGreat

/- What is proved: what can be reached in a tree, by a stack and by rounds, in plain Lean. No condition. -/
import Derived.Test.YtbcdcakcmdcafaaGreatMTree
namespace Go.Proofs.YtbcdcakcmdcafaaGreat
open Go Go.RowKit
set_option linter.unusedVariables false
set_option linter.unusedSimpArgs false
inductive Reach (xs : List DInode) (r : Nat) : Nat → Prop
  | refl : Reach xs r r
  | step {i q : Nat} {x : DInode} {e : DEnt} : Reach xs r i → xs[i]? = some x → x.ents[q]? = some e → Reach xs r e.ino.toNat
noncomputable def reachP (xs : List DInode) (r : Nat) : Int → Bool := fun a => @decide (Reach xs r a.toNat) (Classical.propDecidable _)
noncomputable def reachL (xs : List DInode) (r : Nat) : List Int := placesTo (reachP xs r) xs.length
theorem reachP_iff {xs : List DInode} {r : Nat} {a : Int} : reachP xs r a = true ↔ Reach xs r a.toNat := by
  unfold reachP
  exact @decide_eq_true_iff _ (Classical.propDecidable _)
/-- What is seen: a list of truths. -/
abbrev On (b : List Bool) (i : Nat) : Prop := b[i]? = some true
theorem on_set {b : List Bool} {j i : Nat} (hj : j < b.length) : On (b.set j true) i ↔ (i = j ∨ On b i) := by
  unfold On
  rw [List.getElem?_set]
  by_cases h : j = i
  · subst h; simp [hj]
  · rw [if_neg h]
    constructor
    · exact .inr
    · rintro (rfl | h2)
      · exact absurd rfl h
      · exact h2
theorem reach_sub {xs : List DInode} {r : Nat} {S : Nat → Prop} (h0 : S r) (hc : ∀ (i q : Nat) x e, S i → xs[i]? = some x → x.ents[q]? = some e → S e.ino.toNat) : ∀ i, Reach xs r i → S i := fun i h => by
  induction h with
  | refl => exact h0
  | step _ hx he ih => exact hc _ _ _ _ ih hx he
theorem reach_lt {xs : List DInode} {r : Nat} (hI : inodesFault xs = 0) (hG : ∀ (j : Nat) x, xs[j]? = some x → goodX xs x) (hr : r < xs.length) : ∀ i, Reach xs r i → i < xs.length :=
  reach_sub hr fun i q x e _ hx he => by
    have h1 := ent_in (hG i x hx q e he)
    have h2 := ents_ok (inodes_all hI x (List.mem_of_getElem? hx)) q e he
    omega
/-! ### the stack -/
structure Dfs (xs : List DInode) (r : Nat) (b : List Bool) (op : List Int) : Prop where
  len : b.length = xs.length
  snd : ∀ i, On b i → Reach xs r i
  opn : ∀ a, a ∈ op → (0 ≤ a ∧ a < (xs.length : Int)) ∧ Reach xs r a.toNat
  top : On b r ∨ (r : Int) ∈ op
  cls : ∀ (i q : Nat) x e, On b i → xs[i]? = some x → x.ents[q]? = some e → On b e.ino.toNat ∨ e.ino ∈ op
theorem dfs_init {xs : List DInode} {r : Nat} (hr : r < xs.length) : Dfs xs r (List.replicate xs.length false) [(r : Int)] where
  len := by simp
  snd i h := by
    exfalso
    unfold On at h
    rw [List.getElem?_replicate] at h
    split at h <;> simp at h
  opn a ha := by
    obtain rfl := List.mem_singleton.1 ha
    exact ⟨by omega, by rw [Int.toNat_natCast]; exact .refl⟩
  top := .inr (List.mem_singleton.2 rfl)
  cls i q x e h := by
    exfalso
    unfold On at h
    rw [List.getElem?_replicate] at h
    split at h <;> simp at h
theorem take_last {α : Type} {op : List α} {a : α} (ha : op[op.length - 1]? = some a) : op = op.take (op.length - 1) ++ [a] := by
  have := take_snoc ha
  rw [this, List.take_of_length_le]
  have := (List.getElem?_eq_some_iff.1 ha).1
  omega
theorem dfs_seen {xs : List DInode} {r : Nat} {b : List Bool} {op : List Int} {a : Int} (h : Dfs xs r b op) (ha : op[op.length - 1]? = some a) (hs : On b a.toNat) : Dfs xs r b (op.take (op.length - 1)) := by
  have he := take_last ha
  have hm : ∀ c, c ∈ op → c = a ∨ c ∈ op.take (op.length - 1) := fun c hc => by
    rw [he] at hc
    rcases List.mem_append.1 hc with h1 | h1
    · exact .inr h1
    · exact .inl (List.mem_singleton.1 h1)
  refine ⟨h.len, h.snd, fun c hc => h.opn c (List.mem_of_mem_take hc), ?_, fun i q x e hi hx hq => ?_⟩
  · rcases h.top with h1 | h1
    · exact .inl h1
    · rcases hm _ h1 with h2 | h2
      · exact .inl (by rw [← h2, Int.toNat_natCast] at hs; exact hs)
      · exact .inr h2
  · rcases h.cls i q x e hi hx hq with h1 | h1
    · exact .inl h1
    · rcases hm _ h1 with h2 | h2
      · exact .inl (by rw [h2]; exact hs)
      · exact .inr h2
def inosTo (es : List DEnt) (k : Nat) : List Int := (es.take k).map (·.ino)
theorem inosTo_s {op : List Int} {es : List DEnt} {k : Nat} {e : DEnt} (h : es[k]? = some e) : (op ++ inosTo es k) ++ [e.ino] = op ++ inosTo es (k + 1) := by
  unfold inosTo
  rw [← take_snoc h, List.map_append, List.append_assoc]
  rfl
theorem inosTo_0 (op : List Int) (es : List DEnt) : op = op ++ inosTo es 0 := by simp [inosTo]
theorem inosTo_len {es : List DEnt} {k : Nat} : (inosTo es k).length ≤ es.length := by
  unfold inosTo; rw [List.length_map, List.length_take]; omega
theorem dfs_new {xs : List DInode} {r : Nat} {b : List Bool} {op : List Int} {a : Int} {x : DInode} {k : Nat} (hI : inodesFault xs = 0) (hG : ∀ (j : Nat) x, xs[j]? = some x → goodX xs x) (h : Dfs xs r b op) (ha : op[op.length - 1]? = some a) (hx : xs[a.toNat]? = some x) (hk : x.ents.length ≤ k) :
    Dfs xs r (b.set a.toNat true) (op.take (op.length - 1) ++ inosTo x.ents k) := by
  have he := take_last ha
  have hmem : a ∈ op := by rw [he]; exact List.mem_append.2 (.inr (List.mem_singleton.2 rfl))
  have hop := h.opn a hmem
  have hlt : a.toNat < b.length := by rw [h.len]; omega
  have hm : ∀ c, c ∈ op → c = a ∨ c ∈ op.take (op.length - 1) := fun c hc => by
    rw [he] at hc
    rcases List.mem_append.1 hc with h1 | h1
    · exact .inr h1
    · exact .inl (List.mem_singleton.1 h1)
  have hin : inosTo x.ents k = x.ents.map (·.ino) := by unfold inosTo; rw [List.take_of_length_le hk]
  refine ⟨by rw [List.length_set]; exact h.len, fun i hi => ?_, fun c hc => ?_, ?_, fun i q y e hi hy hq => ?_⟩
  · rcases (on_set hlt).1 hi with rfl | h1
    · exact hop.2
    · exact h.snd i h1
  · rcases List.mem_append.1 hc with h1 | h1
    · exact h.opn c (List.mem_of_mem_take h1)
    · rw [hin] at h1
      obtain ⟨e, hem, rfl⟩ := List.mem_map.1 h1
      obtain ⟨q, hq⟩ := List.mem_iff_getElem?.1 hem
      have h2 := ent_in (hG _ x hx q e hq)
      have h3 := ents_ok (inodes_all hI x (List.mem_of_getElem? hx)) q e hq
      exact ⟨⟨h3.2.1, h2⟩, .step hop.2 hx hq⟩
  · rcases h.top with h1 | h1
    · exact .inl ((on_set hlt).2 (.inr h1))
    · rcases hm _ h1 with h2 | h2
      · exact .inl ((on_set hlt).2 (.inl (by rw [← h2, Int.toNat_natCast])))
      · exact .inr (List.mem_append.2 (.inl h2))
  · rcases (on_set hlt).1 hi with rfl | h1
    · rw [hx] at hy
      obtain rfl := Option.some.inj hy
      exact .inr (List.mem_append.2 (.inr (by rw [hin]; exact List.mem_map.2 ⟨e, List.mem_of_getElem? hq, rfl⟩)))
    · rcases h.cls i q y e h1 hy hq with h2 | h2
      · exact .inl ((on_set hlt).2 (.inr h2))
      · rcases hm _ h2 with h3 | h3
        · exact .inl ((on_set hlt).2 (.inl (by rw [h3])))
        · exact .inr (List.mem_append.2 (.inl h3))
theorem dfs_end {xs : List DInode} {r : Nat} {b : List Bool} {op : List Int} (h : Dfs xs r b op) (h0 : op.length = 0) : ∀ i, On b i ↔ Reach xs r i := by
  obtain rfl := List.length_eq_zero_iff.1 h0
  have hr : On b r := h.top.elim id (fun h => by cases h)
  exact fun i => ⟨h.snd i, reach_sub hr (fun i q x e hi hx hq => (h.cls i q x e hi hx hq).elim id (fun h => by cases h)) i⟩
/-- How many are not seen yet. -/
def offN (b : List Bool) : Nat := b.count false
theorem offN_set : ∀ {b : List Bool} {j : Nat}, b[j]? = some false → offN (b.set j true) + 1 = offN b
  | [], j, h => by simp at h
  | c :: b, 0, h => by
    simp at h
    subst h
    simp [offN]
  | c :: b, j + 1, h => by
    have ih := offN_set (b := b) (j := j) (by simpa using h)
    unfold offN at ih ⊢
    simp only [List.set_cons_succ, List.count_cons]
    omega
theorem not_on {b : List Bool} {j : Nat} (hj : j < b.length) (h : ¬ On b j) : b[j]? = some false := by
  unfold On at h
  rw [List.getElem?_eq_getElem hj] at h ⊢
  cases hb : b[j]
  · rfl
  · exact absurd (by rw [hb]) h
/-! ### the list of what is seen -/
abbrev onP (b : List Bool) : Int → Bool := fun a => b.getD a.toNat false
theorem onP_of {b : List Bool} {k : Nat} {c : Bool} (h : b[k]? = some c) : onP b (k : Int) = c := by
  unfold onP
  rw [Int.toNat_natCast, List.getD_eq_getElem?_getD, h]
  rfl
theorem seen_reach {xs : List DInode} {r : Nat} {b : List Bool} {k : Nat} (h : ∀ i, On b i ↔ Reach xs r i) (hl : b.length = xs.length) (hk : k = b.length) : placesTo (onP b) k = reachL xs r := by
  unfold reachL
  rw [hk, hl]
  refine placesTo_congr fun a h1 h2 => ?_
  rw [Bool.eq_iff_iff, reachP_iff, ← h]
  unfold onP On
  rw [List.getD_eq_getElem?_getD]
  cases hb : b[a.toNat]? with
  | none => simp
  | some c => simp
/-! ### the rounds -/
abbrev LeB (b c : List Bool) : Prop := ∀ i, On b i → On c i
def onN (b : List Bool) : Nat := b.count true
theorem onN_len (b : List Bool) : onN b ≤ b.length := List.count_le_length
theorem onN_lt : ∀ {b c : List Bool}, b.length = c.length → LeB b c → b = c ∨ onN b < onN c
  | [], [], _, _ => .inl rfl
  | x :: b, y :: c, hl, hle => by
    have h1 : LeB b c := fun i hi => by have := hle (i + 1) (by simpa [On] using hi); simpa [On] using this
    have h0 : x = true → y = true := fun hx => by have := hle 0 (by simp [On, hx]); simpa [On] using this
    rcases onN_lt (b := b) (c := c) (by simpa using hl) h1 with rfl | h2
    · cases x <;> cases y <;> simp [onN] at h0 ⊢
    · right
      unfold onN at h2 ⊢
      simp only [List.count_cons]
      cases x <;> cases y <;> simp at h0 ⊢ <;> omega
  | [], _ :: _, hl, _ => by simp at hl
  | _ :: _, [], hl, _ => by simp at hl
abbrev Clo (xs : List DInode) (b : List Bool) : Prop := ∀ (i q : Nat) x e, On b i → xs[i]? = some x → x.ents[q]? = some e → On b e.ino.toNat
/-- At a round's head. -/
structure Rnd (xs : List DInode) (k : Nat) (b : List Bool) : Prop where
  len : b.length = xs.length
  snd : ∀ i, On b i → Reach xs 0 i
  top : On b 0
  prog : Clo xs b ∨ k + 1 ≤ onN b
/-- Within a round that began at b0: the places below i are done. -/
structure Mid (xs : List DInode) (b0 : List Bool) (i : Nat) (b : List Bool) : Prop where
  len : b.length = xs.length
  snd : ∀ i, On b i → Reach xs 0 i
  le : LeB b0 b
  don : ∀ (j q : Nat) x e, j < i → On b0 j → xs[j]? = some x → x.ents[q]? = some e → On b e.ino.toNat
theorem mid_init {xs : List DInode} {k : Nat} {b : List Bool} (h : Rnd xs k b) : Mid xs b 0 b := ⟨h.len, h.snd, fun _ h => h, fun j _ _ _ hj => absurd hj (Nat.not_lt_zero j)⟩
theorem rnd_next {xs : List DInode} {k i : Nat} {b0 b : List Bool} (h0 : Rnd xs k b0) (h : Mid xs b0 i b) (hi : xs.length ≤ i) : Rnd xs (k + 1) b := by
  refine ⟨h.len, h.snd, h.le 0 h0.top, ?_⟩
  have hd : ∀ (j q : Nat) x e, On b0 j → xs[j]? = some x → x.ents[q]? = some e → On b e.ino.toNat := fun j q x e hj hx hq => h.don j q x e (by have := (List.getElem?_eq_some_iff.1 hx).1; omega) hj hx hq
  rcases onN_lt (h0.len.trans h.len.symm) h.le with rfl | hlt
  · exact .inl hd
  · rcases h0.prog with hc | hc
    · exfalso
      have : b0 = b := by
        have hle : LeB b b0 := fun j hj => reach_sub h0.top hc j (h.snd j hj)
        rcases onN_lt (h.len.trans h0.len.symm) hle with h1 | h1
        · exact h1.symm
        · omega
      subst this
      omega
    · exact .inr (by omega)
theorem rnd_end {xs : List DInode} {k : Nat} {b : List Bool} (h : Rnd xs k b) (hk : xs.length ≤ k) : ∀ i, On b i ↔ Reach xs 0 i := by
  have hc : Clo xs b := h.prog.elim id (fun h1 => by have := onN_len b; have := h.len; omega)
  exact fun i => ⟨h.snd i, reach_sub h.top hc i⟩
/-- Within place i: the entries below q are done. -/
structure Inn (xs : List DInode) (b0 : List Bool) (i : Nat) (x : DInode) (q : Nat) (b : List Bool) : Prop where
  mid : Mid xs b0 i b
  don : ∀ (j : Nat) e, j < q → x.ents[j]? = some e → On b e.ino.toNat
theorem inn_init {xs : List DInode} {b0 b : List Bool} {i : Nat} {x : DInode} (h : Mid xs b0 i b) : Inn xs b0 i x 0 b := ⟨h, fun j _ hj => absurd hj (Nat.not_lt_zero j)⟩
theorem inn_next {xs : List DInode} {b0 b : List Bool} {i q : Nat} {x : DInode} {e : DEnt} (h : Inn xs b0 i x q b) (hx : xs[i]? = some x) (he : x.ents[q]? = some e) (hb : On b i) (hl : e.ino.toNat < b.length) : Inn xs b0 i x (q + 1) (b.set e.ino.toNat true) := by
  have up : ∀ j, On b j → On (b.set e.ino.toNat true) j := fun j hj => (on_set hl).2 (.inr hj)
  refine ⟨⟨by rw [List.length_set]; exact h.mid.len, fun j hj => ?_, fun j hj => up j (h.mid.le j hj), fun j p y d hj hb0 hy hd => up _ (h.mid.don j p y d hj hb0 hy hd)⟩, fun j d hj hd => ?_⟩
  · rcases (on_set hl).1 hj with rfl | h1
    · exact .step (h.mid.snd i hb) hx he
    · exact h.mid.snd j h1
  · by_cases hq : j < q
    · exact up _ (h.don j d hq hd)
    · obtain rfl : j = q := by omega
      rw [he] at hd
      obtain rfl := Option.some.inj hd
      exact (on_set hl).2 (.inl rfl)
theorem mid_next {xs : List DInode} {b0 b : List Bool} {i q : Nat} {x : DInode} (h : Inn xs b0 i x q b) (hx : xs[i]? = some x) (hq : On b i → x.ents.length ≤ q) : Mid xs b0 (i + 1) b := by
  refine ⟨h.mid.len, h.mid.snd, h.mid.le, fun j p y d hj hb0 hy hd => ?_⟩
  by_cases hji : j < i
  · exact h.mid.don j p y d hji hb0 hy hd
  · obtain rfl : j = i := by omega
    rw [hx] at hy
    obtain rfl := Option.some.inj hy
    have := hq (h.mid.le _ hb0)
    exact h.don p d (by have := (List.getElem?_eq_some_iff.1 hd).1; omega) hd
theorem rnd_init {xs : List DInode} (h0 : 0 < xs.length) : Rnd xs 0 ((List.replicate xs.length false).set 0 true) := by
  have hl : 0 < (List.replicate xs.length false).length := by simpa using h0
  refine ⟨by simp, fun i hi => ?_, (on_set hl).2 (.inl rfl), .inr ?_⟩
  · rcases (on_set hl).1 hi with rfl | h1
    · exact .refl
    · exfalso
      unfold On at h1
      rw [List.getElem?_replicate] at h1
      split at h1 <;> simp at h1
  · cases hn : xs.length with
    | zero => omega
    | succ n => simp [List.replicate_succ, onN]
noncomputable def reachR (f : DFs) : RInts := if treeFault f = 0 then ⟨0, reachL f.inodes 0⟩ else ⟨treeFault f, []⟩
theorem reachR_f {f : DFs} (h : ¬ treeFault f = 0) : reachR f = ⟨treeFault f, []⟩ := if_neg h
theorem reachR_0 {f : DFs} (h : treeFault f = 0) : reachR f = ⟨0, reachL f.inodes 0⟩ := if_pos h
theorem treeG {f : DFs} (h : treeFault f = 0) : ∀ (j : Nat) x, f.inodes[j]? = some x → goodX f.inodes x := fun _ _ hx => good_of (treeOk h).2.2.2 hx
theorem treeL {f : DFs} (h : treeFault f = 0) : 0 < f.inodes.length := (rootOk (treeOk h).1).2.1
end Go.Proofs.YtbcdcakcmdcafaaGreat

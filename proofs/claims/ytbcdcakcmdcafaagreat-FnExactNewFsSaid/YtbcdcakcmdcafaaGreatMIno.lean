/- What is proved: names, inodes and their faults, in plain Lean. No condition. -/
import Derived.Test.YtbcdcakcmdcafaaGreatMDisk
import Derived.Test.YtbcdcakcmdcafaaGreatMLaw
import Derived.Test.YtbcdcakcmdcafaaGreatStrs
namespace Go.Proofs.YtbcdcakcmdcafaaGreat
open Go Go.RowKit
set_option linter.unusedVariables false
set_option linter.unusedSimpArgs false
/-! ### names -/
abbrev lowB (b : UInt8) : Prop := (97 : Int) ≤ (b.toNat : Int) ∧ (b.toNat : Int) ≤ 122
def nameFault (s : ByteArray) : Int := if s.data.toList.all (fun b => decide (lowB b)) = true then (if s.size = 0 then 5 else if 4 < s.size then 2 else 0) else 5
theorem nameFault_5 {s : ByteArray} {k : Nat} {b : UInt8} (hb : s.data.toList[k]? = some b) (h : ¬ lowB b) : nameFault s = 5 := by
  unfold nameFault
  rw [if_neg]
  intro ha
  exact h (of_decide_eq_true (List.all_eq_true.1 ha b (List.mem_of_getElem? hb)))
theorem low_all {s : ByteArray} (h : ∀ j b, j < s.size → s.data.toList[j]? = some b → lowB b) : s.data.toList.all (fun b => decide (lowB b)) = true :=
  List.all_eq_true.2 fun b hb => by
    obtain ⟨j, hj⟩ := List.mem_iff_getElem?.1 hb
    exact decide_eq_true (h j b (by have := (List.getElem?_eq_some_iff.1 hj).1; rw [str_len] at this; exact this) hj)
theorem size_e {s : ByteArray} (h : s = ⟨#[]⟩) : s.size = 0 := by subst h; rfl
theorem size_ne {s : ByteArray} (h : ¬ s = ⟨#[]⟩) : ¬ s.size = 0 := fun h0 => h (by
  cases s with
  | mk d => have : d.size = 0 := h0
            rw [Array.size_eq_zero_iff] at this
            rw [this])
theorem nameFault_e {s : ByteArray} (h : s = ⟨#[]⟩) : nameFault s = 5 := by
  subst h
  decide
theorem nameFault_2 {s : ByteArray} (hall : ∀ j b, j < s.size → s.data.toList[j]? = some b → lowB b) (h : ¬ s = ⟨#[]⟩) (h4 : (4 : Int) < (s.size : Int)) : nameFault s = 2 := by
  unfold nameFault
  rw [if_pos (low_all hall), if_neg (size_ne h), if_pos (by omega)]
theorem nameFault_0 {s : ByteArray} (hall : ∀ j b, j < s.size → s.data.toList[j]? = some b → lowB b) (h : ¬ s = ⟨#[]⟩) (h4 : ¬ (4 : Int) < (s.size : Int)) : nameFault s = 0 := by
  unfold nameFault
  rw [if_pos (low_all hall), if_neg (size_ne h), if_neg (by omega)]
theorem name_4 {s : ByteArray} (h : nameFault s = 0) : s.size ≤ 4 ∧ 0 < s.size := by
  unfold nameFault at h
  split at h
  · split at h
    · exact absurd h (by decide)
    · split at h
      · exact absurd h (by decide)
      · omega
  · exact absurd h (by decide)
/-! ### strings in order -/
theorem bl_tri : ∀ x y : List UInt8, (Op.bytesLess x y || decide (x = y)) = !Op.bytesLess y x
  | [], [] => by simp [Op.bytesLess]
  | [], b :: y => by simp [Op.bytesLess]
  | a :: x, [] => by simp [Op.bytesLess]
  | a :: x, b :: y => by
    have ih := bl_tri x y
    simp only [Op.bytesLess, List.cons.injEq]
    by_cases h : a = b
    · subst h
      have : ¬ a < a := UInt8.lt_irrefl a
      simp [this] at ih ⊢
      exact ih
    · have h' : ¬ b = a := fun e => h e.symm
      simp [h, h']
      rcases UInt8.lt_or_lt_of_ne h with g | g
      · have : ¬ b < a := UInt8.lt_asymm g
        simp [g, this, UInt8.le_of_lt g]
        exact .inl h'
      · have : ¬ a < b := UInt8.lt_asymm g
        simp [g, this]
        exact fun e => absurd e h
theorem toList_inj {s u : ByteArray} : s.toList = u.toList ↔ s = u := by
  constructor
  · intro h
    have h2 : s.data.toList = u.data.toList := by simpa [ByteArray.toList_eq] using h
    cases s; cases u
    simp at h2
    rw [h2]
  · rintro rfl; rfl
theorem sle_not (s u : ByteArray) : (sLt s u || decide (s = u)) = !sLt u s := by
  have := bl_tri s.toList u.toList
  unfold sLt
  rw [← this]
  congr 1
  rw [decide_eq_decide]
  exact toList_inj.symm
theorem bytesLess_irr : ∀ xs : List UInt8, Op.bytesLess xs xs = false
  | [] => by simp [Op.bytesLess]
  | x :: xs => by simp [Op.bytesLess, bytesLess_irr xs]
/-! ### files -/
def fileFault (x : DInode) : Int :=
  if (1 ≤ x.links ∧ x.links ≤ 60) ∧ (0 ≤ x.size ∧ x.size ≤ 32) then
    if (x.blocks.length : Int) = (x.size + 7) / 8 then
      if x.blocks.any (fun b => !decide (0 ≤ b ∧ b ≤ 19)) = true then 3 else if x.blocks.Nodup then 0 else 7
    else 1
  else 3
theorem fileFault_3 {x : DInode} (h : ¬ ((1 ≤ x.links ∧ x.links ≤ 60) ∧ (0 ≤ x.size ∧ x.size ≤ 32))) : fileFault x = 3 := if_neg h
theorem fileFault_1 {x : DInode} (h : (1 ≤ x.links ∧ x.links ≤ 60) ∧ (0 ≤ x.size ∧ x.size ≤ 32)) (h2 : ¬ (x.blocks.length : Int) = (x.size + 7) / 8) : fileFault x = 1 := by
  unfold fileFault; rw [if_pos h, if_neg h2]
theorem fileFault_3' {x : DInode} (h : (1 ≤ x.links ∧ x.links ≤ 60) ∧ (0 ≤ x.size ∧ x.size ≤ 32)) (h2 : (x.blocks.length : Int) = (x.size + 7) / 8) (h3 : x.blocks.any (fun b => !decide (0 ≤ b ∧ b ≤ 19)) = true) : fileFault x = 3 := by
  unfold fileFault; rw [if_pos h, if_pos h2, if_pos h3]
theorem fileFault_7 {x : DInode} (h : (1 ≤ x.links ∧ x.links ≤ 60) ∧ (0 ≤ x.size ∧ x.size ≤ 32)) (h2 : (x.blocks.length : Int) = (x.size + 7) / 8) (h3 : x.blocks.any (fun b => !decide (0 ≤ b ∧ b ≤ 19)) = false) (h4 : ¬ x.blocks.Nodup) : fileFault x = 7 := by
  unfold fileFault; rw [if_pos h, if_pos h2, if_neg (by rw [h3]; decide), if_neg h4]
theorem fileFault_0 {x : DInode} (h : (1 ≤ x.links ∧ x.links ≤ 60) ∧ (0 ≤ x.size ∧ x.size ≤ 32)) (h2 : (x.blocks.length : Int) = (x.size + 7) / 8) (h3 : x.blocks.any (fun b => !decide (0 ≤ b ∧ b ≤ 19)) = false) (h4 : x.blocks.Nodup) : fileFault x = 0 := by
  unfold fileFault; rw [if_pos h, if_pos h2, if_neg (by rw [h3]; decide), if_pos h4]
theorem nodup_s {α : Type} {xs : List α} {k : Nat} {b : α} (h : (xs.take k).Nodup) (hb : xs[k]? = some b) (hn : ¬ b ∈ xs.take k) : (xs.take (k + 1)).Nodup := by
  rw [← take_snoc hb]
  exact List.nodup_append.2 ⟨h, by simp, fun a ha c hc => by
    obtain rfl := List.mem_singleton.1 hc
    exact fun e => hn (e ▸ ha)⟩
theorem not_nodup {α : Type} {xs : List α} {k : Nat} {b : α} (hb : xs[k]? = some b) (hm : b ∈ xs.take k) : ¬ xs.Nodup := fun h => by
  have : (xs.take (k + 1)).Nodup := h.sublist (List.take_sublist _ _)
  rw [← take_snoc hb] at this
  exact (List.nodup_append.1 this).2.2 b hm b (List.mem_singleton.2 rfl) rfl
theorem mem_take_of {α : Type} {xs : List α} {k q : Nat} {b : α} (hb : xs[q]? = some b) (h : q < k) : b ∈ xs.take k := by
  refine List.mem_of_getElem? (i := q) ?_
  rw [List.getElem?_take, if_pos h]
  exact hb
theorem not_mem_take {α : Type} {xs : List α} {k : Nat} {b : α} (h : ∀ j y, j < k → xs[j]? = some y → ¬ y = b) : ¬ b ∈ xs.take k := fun hm => by
  obtain ⟨j, hj⟩ := List.mem_iff_getElem?.1 hm
  rw [List.getElem?_take] at hj
  split at hj
  · rename_i hlt; exact h j b hlt hj rfl
  · cases hj
theorem any_bad {xs : List Int} {k : Nat} {b : Int} (hb : xs[k]? = some b) (h : ¬ (0 ≤ b ∧ b ≤ 19)) : xs.any (fun b => !decide (0 ≤ b ∧ b ≤ 19)) = true :=
  List.any_eq_true.2 ⟨b, List.mem_of_getElem? hb, by simp only [decide_eq_false h]; rfl⟩
theorem any_ok {xs : List Int} (h : ∀ j b, j < xs.length → xs[j]? = some b → 0 ≤ b ∧ b ≤ 19) : xs.any (fun b => !decide (0 ≤ b ∧ b ≤ 19)) = false := by
  rw [List.any_eq_false]
  intro b hb
  obtain ⟨j, hj⟩ := List.mem_iff_getElem?.1 hb
  rw [decide_eq_true (h j b (List.getElem?_eq_some_iff.1 hj).1 hj)]
  decide
def busyFault (xs : List Int) : Int := if 20 < xs.length then 2 else if xs.any (fun b => !decide (0 ≤ b ∧ b ≤ 19)) = true then 3 else 0
theorem busyFault_2 {xs : List Int} (h : (20 : Int) < (xs.length : Int)) : busyFault xs = 2 := if_pos (by omega)
theorem busyFault_3 {xs : List Int} (h : ¬ (20 : Int) < (xs.length : Int)) (h2 : xs.any (fun b => !decide (0 ≤ b ∧ b ≤ 19)) = true) : busyFault xs = 3 := by unfold busyFault; rw [if_neg (by omega), if_pos h2]
theorem busyFault_0 {xs : List Int} (h : ¬ (20 : Int) < (xs.length : Int)) (h2 : xs.any (fun b => !decide (0 ≤ b ∧ b ≤ 19)) = false) : busyFault xs = 0 := by unfold busyFault; rw [if_neg (by omega), if_neg (by rw [h2]; decide)]
/-! ### directories -/
def entOk (es : List DEnt) (j : Nat) (e : DEnt) : Int :=
  if nameFault e.name = 0 then if 0 ≤ e.ino ∧ e.ino ≤ 9 then (match (if j = 0 then none else es[j - 1]?) with | some p => if sLt p.name e.name = true then 0 else 1 | none => 0) else 3 else nameFault e.name
def entAt (es : List DEnt) (j : Nat) : Int := match es[j]? with | some e => entOk es j e | none => 0
def firstN (f : Nat → Int) (n : Nat) : Int := firstF f (List.range n)
theorem firstN_some {f : Nat → Int} {n k : Nat} (hk : k < n) (h : ¬ f k = 0) (ha : ∀ j, j < k → f j = 0) : firstN f n = f k :=
  firstF_some (k := k) (x := k) (by simp [hk]) h (fun j y hj hy => by
    have : j < n := by omega
    simp [this] at hy
    subst hy
    exact ha j hj)
theorem firstN_none {f : Nat → Int} {n : Nat} (ha : ∀ j, j < n → f j = 0) : firstN f n = 0 :=
  firstF_none (fun j y hy => by
    have := (List.getElem?_eq_some_iff.1 hy)
    obtain ⟨h1, h2⟩ := this
    simp at h1 h2
    subst h2
    exact ha j h1)
def dirFault (x : DInode) : Int := if 6 < x.ents.length then 2 else firstN (entAt x.ents) x.ents.length
theorem dirFault_2 {x : DInode} (h : (6 : Int) < (x.ents.length : Int)) : dirFault x = 2 := if_pos (by omega)
theorem dirFault_s {x : DInode} {k : Nat} {e : DEnt} (h : ¬ (6 : Int) < (x.ents.length : Int)) (he : x.ents[k]? = some e) (hn : ¬ entOk x.ents k e = 0) (ha : ∀ j, j < k → entAt x.ents j = 0) : dirFault x = entOk x.ents k e := by
  have e1 : entAt x.ents k = entOk x.ents k e := by unfold entAt; rw [he]
  unfold dirFault
  rw [if_neg (by omega), firstN_some (List.getElem?_eq_some_iff.1 he).1 (by rw [e1]; exact hn) ha, e1]
theorem dirFault_0 {x : DInode} (h : ¬ (6 : Int) < (x.ents.length : Int)) (ha : ∀ j, j < x.ents.length → entAt x.ents j = 0) : dirFault x = 0 := by
  unfold dirFault; rw [if_neg (by omega), firstN_none ha]
theorem entOk_n {es : List DEnt} {j : Nat} {e : DEnt} (h : ¬ nameFault e.name = 0) : entOk es j e = nameFault e.name := if_neg h
theorem entOk_3 {es : List DEnt} {j : Nat} {e : DEnt} (h : nameFault e.name = 0) (h2 : ¬ (0 ≤ e.ino ∧ e.ino ≤ 9)) : entOk es j e = 3 := by unfold entOk; rw [if_pos h, if_neg h2]
theorem entOk_1 {es : List DEnt} {j : Nat} {e p : DEnt} (h : nameFault e.name = 0) (h2 : 0 ≤ e.ino ∧ e.ino ≤ 9) (hj : 0 < j) (hp : es[j - 1]? = some p) (hl : sLt p.name e.name = false) : entOk es j e = 1 := by
  unfold entOk; rw [if_pos h, if_pos h2, if_neg (by omega), hp]; simp [hl]
theorem entOk_p {es : List DEnt} {j : Nat} {e p : DEnt} (h : nameFault e.name = 0) (h2 : 0 ≤ e.ino ∧ e.ino ≤ 9) (hj : 0 < j) (hp : es[j - 1]? = some p) (hl : sLt p.name e.name = true) : entOk es j e = 0 := by
  unfold entOk; rw [if_pos h, if_pos h2, if_neg (by omega), hp]; simp [hl]
theorem entOk_z {es : List DEnt} {j : Nat} {e : DEnt} (h : nameFault e.name = 0) (h2 : 0 ≤ e.ino ∧ e.ino ≤ 9) (hj : j = 0) : entOk es j e = 0 := by
  unfold entOk; rw [if_pos h, if_pos h2, if_pos hj]
theorem entAt_s {es : List DEnt} {k : Nat} {e : DEnt} (ha : ∀ j, j < k → entAt es j = 0) (he : es[k]? = some e) (h : entOk es k e = 0) : ∀ j, j < k + 1 → entAt es j = 0 := fun j hj => by
  by_cases hk : j < k
  · exact ha j hk
  · obtain rfl : j = k := by omega
    unfold entAt; rw [he]; exact h
def inodeFault (x : DInode) : Int :=
  if 0 ≤ x.kind ∧ x.kind ≤ 2 then
    if (x.kind ≠ 1 ∧ ¬ (x.links = 0 ∧ x.size = 0 ∧ x.blocks.length = 0)) ∨ (x.kind ≠ 2 ∧ ¬ x.ents.length = 0) then 1
    else if x.kind = 1 then fileFault x else if x.kind = 2 then dirFault x else 0
  else 1
theorem inodeFault_k {x : DInode} (h : ¬ (0 ≤ x.kind ∧ x.kind ≤ 2)) : inodeFault x = 1 := if_neg h
theorem inodeFault_1 {x : DInode} (h : (x.kind ≠ 1 ∧ ¬ (x.links = 0 ∧ x.size = 0 ∧ x.blocks.length = 0)) ∨ (x.kind ≠ 2 ∧ ¬ x.ents.length = 0)) : inodeFault x = 1 := by
  unfold inodeFault
  by_cases hk : 0 ≤ x.kind ∧ x.kind ≤ 2
  · rw [if_pos hk, if_pos h]
  · rw [if_neg hk]
theorem inodeFault_f {x : DInode} (h : x.kind = 1) (h2 : x.ents.length = 0) : inodeFault x = fileFault x := by
  unfold inodeFault; rw [if_pos (by omega), if_neg (by omega), if_pos h]
theorem inodeFault_d {x : DInode} (h : x.kind = 2) (h2 : x.links = 0 ∧ x.size = 0 ∧ x.blocks.length = 0) : inodeFault x = dirFault x := by
  unfold inodeFault; rw [if_pos (by omega), if_neg (by omega), if_neg (by omega), if_pos h]
theorem inodeFault_0 {x : DInode} (h : x.kind = 0) (h2 : x.links = 0 ∧ x.size = 0 ∧ x.blocks.length = 0) (h3 : x.ents.length = 0) : inodeFault x = 0 := by
  unfold inodeFault; rw [if_pos (by omega), if_neg (by omega), if_neg (by omega), if_neg (by omega)]
theorem inodeFault_r {x : DInode} (h : 0 ≤ x.kind ∧ x.kind ≤ 2) (h1 : ¬ x.kind = 1) (h2 : x.links = 0 ∧ x.size = 0 ∧ x.blocks.length = 0) (h3 : x.kind = 2 ∨ x.ents.length = 0) : inodeFault x = dirFault x := by
  by_cases hk : x.kind = 2
  · exact inodeFault_d hk h2
  · rw [inodeFault_0 (by omega) h2 (by omega)]
    exact (dirFault_0 (by omega) (fun j hj => by omega)).symm
theorem dirFault_e {x : DInode} (h : x.ents.length = 0) : dirFault x = 0 := dirFault_0 (by omega) (fun j hj => by omega)
def inodesFault (xs : List DInode) : Int := if 10 < xs.length then 2 else firstF inodeFault xs
theorem inodesFault_2 {xs : List DInode} (h : (10 : Int) < (xs.length : Int)) : inodesFault xs = 2 := if_pos (by omega)
theorem inodesFault_s {xs : List DInode} {k : Nat} {x : DInode} (h : ¬ (10 : Int) < (xs.length : Int)) (hx : xs[k]? = some x) (hn : ¬ inodeFault x = 0) (ha : ∀ j y, j < k → xs[j]? = some y → inodeFault y = 0) : inodesFault xs = inodeFault x := by
  unfold inodesFault; rw [if_neg (by omega), firstF_some hx hn ha]
theorem inodesFault_0 {xs : List DInode} (h : ¬ (10 : Int) < (xs.length : Int)) (ha : ∀ j y, j < xs.length → xs[j]? = some y → inodeFault y = 0) : inodesFault xs = 0 := by
  unfold inodesFault; rw [if_neg (by omega), firstF_none (fun j y hy => ha j y (List.getElem?_eq_some_iff.1 hy).1 hy)]
/-! ### what is free, links -/
def freePlace (xs : List DInode) : RInt := if inodesFault xs = 0 then match xs.findIdx? (fun x => decide (x.kind = 0)) with | some i => ⟨0, i⟩ | none => if xs.length = 10 then ⟨8, 0⟩ else ⟨0, xs.length⟩ else ⟨inodesFault xs, 0⟩
theorem inodes_10 {xs : List DInode} (h : inodesFault xs = 0) : xs.length ≤ 10 := by
  unfold inodesFault at h
  split at h
  · exact absurd h (by decide)
  · omega
theorem inodes_all {xs : List DInode} (h : inodesFault xs = 0) : ∀ x, x ∈ xs → inodeFault x = 0 := by
  unfold inodesFault at h
  split at h
  · exact absurd h (by decide)
  · exact firstF_all h
theorem ents_6 {x : DInode} (h : inodeFault x = 0) : x.ents.length ≤ 6 := by
  unfold inodeFault at h
  split at h
  · split at h
    · exact absurd h (by decide)
    · split at h
      · omega
      · split at h
        · unfold dirFault at h
          split at h
          · exact absurd h (by decide)
          · omega
        · omega
  · exact absurd h (by decide)
def cntE (a : Int) (e : DEnt) : Nat := if e.ino = a then 1 else 0
def linksIn (a : Int) (x : DInode) : Nat := sumF (cntE a) x.ents
def linksOf (xs : List DInode) (a : Int) : Nat := sumF (linksIn a) xs
theorem sumF_bnd {α : Type} {f : α → Nat} {B : Nat} : ∀ {xs : List α}, (∀ x, x ∈ xs → f x ≤ B) → sumF f xs ≤ xs.length * B
  | [], _ => Nat.zero_le _
  | x :: xs, h => by
    have h1 := h x List.mem_cons_self
    have h2 := sumF_bnd (xs := xs) (fun y hy => h y (List.mem_cons_of_mem _ hy))
    simp only [sumF, List.length_cons, Nat.succ_mul]
    omega
theorem cntE_1 (a : Int) (e : DEnt) : cntE a e ≤ 1 := by unfold cntE; split <;> omega
theorem links_60 {xs : List DInode} (h : inodesFault xs = 0) (a : Int) : linksOf xs a ≤ 60 := by
  have h1 : linksOf xs a ≤ xs.length * 6 := sumF_bnd fun x hx => by
    have h2 : linksIn a x ≤ x.ents.length * 1 := sumF_bnd fun e _ => cntE_1 a e
    have h3 := ents_6 (inodes_all h x hx)
    omega
  have := inodes_10 h
  omega
def linksR (xs : List DInode) (a : Int) : RInt := if inodesFault xs = 0 then if placeIn xs.length a then ⟨0, linksOf xs a⟩ else ⟨3, 0⟩ else ⟨inodesFault xs, 0⟩
theorem linksR_f {xs : List DInode} {a : Int} (h : ¬ inodesFault xs = 0) : linksR xs a = ⟨inodesFault xs, 0⟩ := if_neg h
theorem linksR_3 {xs : List DInode} {a : Int} (h : inodesFault xs = 0) (h2 : ¬ placeIn xs.length a) : linksR xs a = ⟨3, 0⟩ := by unfold linksR; rw [if_pos h, if_neg h2]
theorem linksR_0 {xs : List DInode} {a : Int} (h : inodesFault xs = 0) (h2 : placeIn xs.length a) : linksR xs a = ⟨0, linksOf xs a⟩ := by unfold linksR; rw [if_pos h, if_pos h2]
theorem freePlace_f {xs : List DInode} (h : ¬ inodesFault xs = 0) : freePlace xs = ⟨inodesFault xs, 0⟩ := if_neg h
def freeAt (xs : List DInode) : Int := match xs.findIdx? (fun x => decide (x.kind = 0)) with | some i => i | none => if xs.length = 10 then -1 else xs.length
theorem freeAt_i {xs : List DInode} {k : Nat} {x : DInode} (hx : xs[k]? = some x) (h : x.kind = 0) (ha : ∀ j y, j < k → xs[j]? = some y → ¬ y.kind = 0) : freeAt xs = (k : Int) := by
  have : xs.findIdx? (fun x => decide (x.kind = 0)) = some k := by
    obtain ⟨hk, rfl⟩ := List.getElem?_eq_some_iff.1 hx
    exact List.findIdx?_eq_some_iff_getElem.2 ⟨hk, decide_eq_true h, fun j hj => by
      have := ha j _ hj (List.getElem?_eq_getElem (by omega))
      simpa using this⟩
  unfold freeAt
  rw [this]
theorem free_none {xs : List DInode} {q : Nat} (hq : xs.length ≤ q) (ha : ∀ j y, j < q → xs[j]? = some y → ¬ y.kind = 0) : xs.findIdx? (fun x => decide (x.kind = 0)) = none := by
  rw [List.findIdx?_eq_none_iff]
  intro y hy
  obtain ⟨j, hj⟩ := List.mem_iff_getElem?.1 hy
  have := ha j y (by have := (List.getElem?_eq_some_iff.1 hj).1; omega) hj
  simpa using this
theorem freeAt_l {xs : List DInode} {q : Nat} (hq : xs.length ≤ q) (ha : ∀ j y, j < q → xs[j]? = some y → ¬ y.kind = 0) (h : (xs.length : Int) < 10) : freeAt xs = (xs.length : Int) := by
  unfold freeAt; rw [free_none hq ha]; simp only; rw [if_neg (by omega)]
theorem freeAt_n {xs : List DInode} {q : Nat} (hq : xs.length ≤ q) (ha : ∀ j y, j < q → xs[j]? = some y → ¬ y.kind = 0) (h : ¬ (xs.length : Int) < 10) (h10 : xs.length ≤ 10) : freeAt xs = -1 := by
  unfold freeAt; rw [free_none hq ha]; simp only; rw [if_pos (by omega)]
theorem freePlace_8 {xs : List DInode} (h : inodesFault xs = 0) (h2 : freeAt xs < 0) : freePlace xs = ⟨8, 0⟩ := by
  unfold freePlace freeAt at *
  rw [if_pos h]
  split at h2
  · omega
  · split at h2
    · rename_i h3 h4; rw [if_pos h4]
    · omega
theorem freePlace_0 {xs : List DInode} (h : inodesFault xs = 0) (h2 : ¬ freeAt xs < 0) : freePlace xs = ⟨0, freeAt xs⟩ := by
  unfold freePlace freeAt at *
  rw [if_pos h]
  split at h2
  · rfl
  · split at h2
    · omega
    · rename_i h3 h4; rw [if_neg h4, if_neg h4]
/-- What impl's inner function tells: the place, the code. -/
theorem free_hit {xs : List DInode} (h : 0 ≤ idxF (fun x => decide (x.kind = 0)) xs) : freeAt xs = idxF (fun x => decide (x.kind = 0)) xs ∧ ¬ freeAt xs < 0 := by
  unfold freeAt idxF at *
  cases hf : xs.findIdx? (fun x => decide (x.kind = 0)) with
  | none => rw [hf] at h; exact absurd h (by decide)
  | some i => simp only; exact ⟨trivial, by omega⟩
theorem free_miss {xs : List DInode} (h : ¬ 0 ≤ idxF (fun x => decide (x.kind = 0)) xs) : freeAt xs = if xs.length = 10 then -1 else (xs.length : Int) := by
  unfold freeAt idxF at *
  cases hf : xs.findIdx? (fun x => decide (x.kind = 0)) with
  | none => rfl
  | some i => rw [hf] at h; simp only at h; omega
end Go.Proofs.YtbcdcakcmdcafaaGreat

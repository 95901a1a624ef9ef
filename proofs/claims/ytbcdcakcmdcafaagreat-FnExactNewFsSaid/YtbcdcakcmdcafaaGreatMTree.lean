/- What is proved: a tree's faults, what a name leads to, in plain Lean. No condition. -/
import Derived.Test.YtbcdcakcmdcafaaGreatMPack
namespace Go.Proofs.YtbcdcakcmdcafaaGreat
open Go Go.RowKit
set_option linter.unusedVariables false
set_option linter.unusedSimpArgs false
def kindAt (xs : List DInode) (i : Int) : Int := match xs[i.toNat]? with | some x => x.kind | none => 0
theorem kind_at {xs : List DInode} {i : Int} {j : Nat} {x : DInode} (hx : xs[j]? = some x) (h : i = (j : Int)) : kindAt xs i = x.kind := by
  subst h
  unfold kindAt
  rw [Int.toNat_natCast, hx]
theorem kind_out {xs : List DInode} {i : Int} (h : (xs.length : Int) ≤ i) : kindAt xs i = 0 := by
  unfold kindAt
  rw [List.getElem?_eq_none (by omega)]
abbrev entBad (xs : List DInode) (e : DEnt) : Prop := kindAt xs e.ino = 0
def rootFault (f : DFs) : Int := if inodesFault f.inodes = 0 then if f.inodes.length = 0 ∨ ¬ kindAt f.inodes 0 = 2 ∨ ¬ f.data.length = 20 then 1 else 0 else inodesFault f.inodes
theorem rootFault_f {f : DFs} (h : ¬ inodesFault f.inodes = 0) : rootFault f = inodesFault f.inodes := if_neg h
theorem rootFault_1 {f : DFs} (h : inodesFault f.inodes = 0) (h2 : f.inodes.length = 0 ∨ ¬ kindAt f.inodes 0 = 2 ∨ ¬ f.data.length = 20) : rootFault f = 1 := by unfold rootFault; rw [if_pos h, if_pos h2]
theorem rootFault_0 {f : DFs} (h : inodesFault f.inodes = 0) (h1 : ¬ f.inodes.length = 0) (h2 : kindAt f.inodes 0 = 2) (h3 : f.data.length = 20) : rootFault f = 0 := by unfold rootFault; rw [if_pos h, if_neg (by omega)]
theorem rootOk {f : DFs} (h : rootFault f = 0) : inodesFault f.inodes = 0 ∧ 0 < f.inodes.length ∧ kindAt f.inodes 0 = 2 ∧ f.data.length = 20 := by
  unfold rootFault at h
  split at h
  · split at h
    · exact absurd h (by decide)
    · rename_i h1 h2; exact ⟨h1, by omega, by omega, by omega⟩
  · contradiction
def bigD (f : DFs) : Bool := f.data.any (fun b => decide ((8 : Int) < (b.length : Int)))
def badE (f : DFs) : Bool := f.inodes.any (fun x => x.ents.any (fun e => decide (entBad f.inodes e)))
def treeFault (f : DFs) : Int := if rootFault f = 0 then if bigD f = true then 2 else if (usedL f.inodes).Nodup then if badE f = true then 4 else 0 else 7 else rootFault f
theorem treeFault_r {f : DFs} (h : ¬ rootFault f = 0) : treeFault f = rootFault f := if_neg h
theorem treeFault_2 {f : DFs} (h : rootFault f = 0) (h2 : bigD f = true) : treeFault f = 2 := by unfold treeFault; rw [if_pos h, if_pos h2]
theorem treeFault_7 {f : DFs} (h : rootFault f = 0) (h2 : bigD f = false) (h3 : ¬ (usedL f.inodes).Nodup) : treeFault f = 7 := by unfold treeFault; rw [if_pos h, if_neg (by rw [h2]; decide), if_neg h3]
theorem treeFault_4 {f : DFs} (h : rootFault f = 0) (h2 : bigD f = false) (h3 : (usedL f.inodes).Nodup) (h4 : badE f = true) : treeFault f = 4 := by unfold treeFault; rw [if_pos h, if_neg (by rw [h2]; decide), if_pos h3, if_pos h4]
theorem treeFault_0 {f : DFs} (h : rootFault f = 0) (h2 : bigD f = false) (h3 : (usedL f.inodes).Nodup) (h4 : badE f = false) : treeFault f = 0 := by unfold treeFault; rw [if_pos h, if_neg (by rw [h2]; decide), if_pos h3, if_neg (by rw [h4]; decide)]
theorem bigD_yes {f : DFs} {k : Nat} {b : List UInt8} (hb : f.data[k]? = some b) (h : (8 : Int) < (b.length : Int)) : bigD f = true := List.any_eq_true.2 ⟨b, List.mem_of_getElem? hb, decide_eq_true h⟩
theorem bigD_no {f : DFs} (h : ∀ j b, j < f.data.length → f.data[j]? = some b → ¬ (8 : Int) < (b.length : Int)) : bigD f = false := by
  unfold bigD
  rw [List.any_eq_false]
  intro b hb
  obtain ⟨j, hj⟩ := List.mem_iff_getElem?.1 hb
  rw [decide_eq_false (h j b (List.getElem?_eq_some_iff.1 hj).1 hj)]
  decide
theorem badE_yes {f : DFs} {k q : Nat} {x : DInode} {e : DEnt} (hx : f.inodes[k]? = some x) (he : x.ents[q]? = some e) (h : entBad f.inodes e) : badE f = true :=
  List.any_eq_true.2 ⟨x, List.mem_of_getElem? hx, List.any_eq_true.2 ⟨e, List.mem_of_getElem? he, decide_eq_true h⟩⟩
abbrev goodX (xs : List DInode) (x : DInode) : Prop := ∀ (j : Nat) (e : DEnt), x.ents[j]? = some e → ¬ entBad xs e
theorem badE_no {f : DFs} (h : ∀ j x, j < f.inodes.length → f.inodes[j]? = some x → goodX f.inodes x) : badE f = false := by
  unfold badE
  rw [List.any_eq_false]
  intro x hx
  obtain ⟨j, hj⟩ := List.mem_iff_getElem?.1 hx
  have h1 := h j x (List.getElem?_eq_some_iff.1 hj).1 hj
  rw [Bool.not_eq_true, List.any_eq_false]
  intro e he
  obtain ⟨i, hi⟩ := List.mem_iff_getElem?.1 he
  rw [decide_eq_false (h1 i e hi)]
  decide
theorem treeOk {f : DFs} (h : treeFault f = 0) : rootFault f = 0 ∧ bigD f = false ∧ (usedL f.inodes).Nodup ∧ badE f = false := by
  unfold treeFault at h
  split at h
  · split at h
    · exact absurd h (by decide)
    · split at h
      · split at h
        · exact absurd h (by decide)
        · rename_i h1 h2 h3 h4; exact ⟨h1, by simpa using h2, h3, by simpa using h4⟩
      · exact absurd h (by decide)
  · contradiction
theorem treeI {f : DFs} (h : treeFault f = 0) : inodesFault f.inodes = 0 := (rootOk (treeOk h).1).1
theorem good_of {f : DFs} (h : badE f = false) {k : Nat} {x : DInode} (hx : f.inodes[k]? = some x) : goodX f.inodes x := fun j e he hb => by
  have := badE_yes hx he hb
  rw [h] at this
  cases this
/-- An entry leads to a place that there is. -/
theorem ent_in {xs : List DInode} {e : DEnt} (h : ¬ entBad xs e) : e.ino < (xs.length : Int) := by
  apply Classical.byContradiction
  intro hn
  exact h (kind_out (by omega))
/-! ### directories -/
def dirCode (f : DFs) (a : Int) : Int := if treeFault f = 0 then if placeIn f.inodes.length a then if kindAt f.inodes a = 2 then 0 else 9 else 3 else treeFault f
theorem dirCode_f {f : DFs} {a : Int} (h : ¬ treeFault f = 0) : dirCode f a = treeFault f := if_neg h
theorem dirCode_3 {f : DFs} {a : Int} (h : treeFault f = 0) (h2 : ¬ placeIn f.inodes.length a) : dirCode f a = 3 := by unfold dirCode; rw [if_pos h, if_neg h2]
theorem dirCode_9 {f : DFs} {a : Int} (h : treeFault f = 0) (h2 : placeIn f.inodes.length a) (h3 : ¬ kindAt f.inodes a = 2) : dirCode f a = 9 := by unfold dirCode; rw [if_pos h, if_pos h2, if_neg h3]
theorem dirCode_0 {f : DFs} {a : Int} (h : treeFault f = 0) (h2 : placeIn f.inodes.length a) (h3 : kindAt f.inodes a = 2) : dirCode f a = 0 := by unfold dirCode; rw [if_pos h, if_pos h2, if_pos h3]
theorem dirOk {f : DFs} {a : Int} (h : dirCode f a = 0) : treeFault f = 0 ∧ placeIn f.inodes.length a ∧ kindAt f.inodes a = 2 := by
  unfold dirCode at h
  split at h
  · split at h
    · split at h
      · rename_i h1 h2 h3; exact ⟨h1, h2, h3⟩
      · exact absurd h (by decide)
    · exact absurd h (by decide)
  · contradiction
def nameCode (f : DFs) (a : Int) (s : ByteArray) : Int := if dirCode f a = 0 then nameFault s else dirCode f a
theorem nameCode_f {f : DFs} {a : Int} {s : ByteArray} (h : ¬ dirCode f a = 0) : nameCode f a s = dirCode f a := if_neg h
theorem nameCode_n {f : DFs} {a : Int} {s : ByteArray} (h : dirCode f a = 0) : nameCode f a s = nameFault s := if_pos h
theorem nameOk {f : DFs} {a : Int} {s : ByteArray} (h : nameCode f a s = 0) : dirCode f a = 0 := by
  unfold nameCode at h
  split at h
  · assumption
  · contradiction
def entsAt (xs : List DInode) (a : Int) : List DEnt := match xs[a.toNat]? with | some x => x.ents | none => []
theorem ents_at {xs : List DInode} {a : Int} {j : Nat} {x : DInode} (hx : xs[j]? = some x) (h : a = (j : Int)) : entsAt xs a = x.ents := by
  subst h
  unfold entsAt
  rw [Int.toNat_natCast, hx]
abbrev nameP (s : ByteArray) : DEnt → Bool := fun e => decide (e.name = s)
def lookI (es : List DEnt) (s : ByteArray) : Int := match es.find? (nameP s) with | some e => e.ino | none => -1
theorem lookI_hit {es : List DEnt} {s : ByteArray} {k : Nat} {e : DEnt} (he : es[k]? = some e) (h : e.name = s) (ha : ∀ j x, j < k → es[j]? = some x → ¬ x.name = s) : lookI es s = e.ino := by
  have : es.find? (nameP s) = some e := by
    obtain ⟨hk, rfl⟩ := List.getElem?_eq_some_iff.1 he
    refine List.find?_eq_some_iff_getElem.2 ⟨decide_eq_true h, k, hk, rfl, fun j hj => ?_⟩
    have := ha j _ hj (List.getElem?_eq_getElem (by omega))
    simpa using this
  unfold lookI
  rw [this]
theorem lookI_no {es : List DEnt} {s : ByteArray} {k : Nat} (hk : es.length ≤ k) (ha : ∀ j x, j < k → es[j]? = some x → ¬ x.name = s) : lookI es s = -1 := by
  have : es.find? (nameP s) = none := List.find?_eq_none.2 fun x hx => by
    obtain ⟨j, hj⟩ := List.mem_iff_getElem?.1 hx
    have := ha j x (by have := (List.getElem?_eq_some_iff.1 hj).1; omega) hj
    simpa using this
  unfold lookI
  rw [this]
theorem idxF_rng {α : Type} (p : α → Bool) (xs : List α) : idxF p xs < (xs.length : Int) ∧ -1 ≤ idxF p xs := by
  unfold idxF
  cases h : xs.findIdx? p with
  | none => simp only; omega
  | some i =>
    have := (List.findIdx?_eq_some_iff_getElem.1 h).1
    simp only; omega
theorem look_at {es : List DEnt} {s : ByteArray} {x : DEnt} (h : ¬ idxF (nameP s) es < 0) (hx : es[Int.toNat (idxF (nameP s) es)]? = some x) : lookI es s = x.ino := by
  unfold idxF at h hx
  cases hf : es.findIdx? (nameP s) with
  | none => rw [hf] at h; exact absurd (by decide : (-1 : Int) < 0) h
  | some i =>
    rw [hf] at hx
    simp only [Int.toNat_natCast] at hx
    obtain ⟨hi, hp, hn⟩ := List.findIdx?_eq_some_iff_getElem.1 hf
    obtain ⟨h1, rfl⟩ := List.getElem?_eq_some_iff.1 hx
    refine lookI_hit hx (of_decide_eq_true hp) fun j y hj hy => ?_
    obtain ⟨h2, rfl⟩ := List.getElem?_eq_some_iff.1 hy
    have := hn j hj
    simpa using this
theorem look_none {es : List DEnt} {s : ByteArray} (h : idxF (nameP s) es < 0) : lookI es s = -1 := by
  unfold idxF at h
  cases hf : es.findIdx? (nameP s) with
  | some i => rw [hf] at h; simp only at h; omega
  | none =>
    have : es.find? (nameP s) = none := List.find?_eq_none.2 fun x hx => by
      have := List.findIdx?_eq_none_iff.1 hf x hx
      simpa using this
    unfold lookI
    rw [this]
def lookR (f : DFs) (a : Int) (s : ByteArray) : RInt := if nameCode f a s = 0 then if lookI (entsAt f.inodes a) s < 0 then ⟨4, 0⟩ else ⟨0, lookI (entsAt f.inodes a) s⟩ else ⟨nameCode f a s, 0⟩
theorem lookR_f {f : DFs} {a : Int} {s : ByteArray} (h : ¬ nameCode f a s = 0) : lookR f a s = ⟨nameCode f a s, 0⟩ := if_neg h
theorem lookR_4 {f : DFs} {a : Int} {s : ByteArray} (h : nameCode f a s = 0) (h2 : lookI (entsAt f.inodes a) s < 0) : lookR f a s = ⟨4, 0⟩ := by unfold lookR; rw [if_pos h, if_pos h2]
theorem lookR_0 {f : DFs} {a : Int} {s : ByteArray} (h : nameCode f a s = 0) (h2 : ¬ lookI (entsAt f.inodes a) s < 0) : lookR f a s = ⟨0, lookI (entsAt f.inodes a) s⟩ := by unfold lookR; rw [if_pos h, if_neg h2]
def namesTo (es : List DEnt) (k : Nat) : List ByteArray := (es.take k).map (·.name)
theorem namesTo_s {es : List DEnt} {k : Nat} {e : DEnt} (h : es[k]? = some e) : namesTo es k ++ [e.name] = namesTo es (k + 1) := by
  unfold namesTo
  rw [← take_snoc h, List.map_append]
  rfl
theorem namesTo_len {es : List DEnt} {k : Nat} : (namesTo es k).length ≤ es.length := by
  unfold namesTo; rw [List.length_map, List.length_take]; omega
def namesOf (es : List DEnt) : List ByteArray := es.map (·.name)
theorem namesTo_all {es : List DEnt} {k : Nat} (h : es.length ≤ k) : namesTo es k = namesOf es := by unfold namesTo namesOf; rw [List.take_of_length_le h]
def namesR (f : DFs) (a : Int) : RNames := if dirCode f a = 0 then ⟨0, namesOf (entsAt f.inodes a)⟩ else ⟨dirCode f a, []⟩
theorem namesR_f {f : DFs} {a : Int} (h : ¬ dirCode f a = 0) : namesR f a = ⟨dirCode f a, []⟩ := if_neg h
theorem namesR_0 {f : DFs} {a : Int} (h : dirCode f a = 0) : namesR f a = ⟨0, namesOf (entsAt f.inodes a)⟩ := if_pos h
def emptyDir (f : DFs) (a : Int) : Prop := dirCode f a = 0 ∧ (entsAt f.inodes a).length = 0
instance (f : DFs) (a : Int) : Decidable (emptyDir f a) := by unfold emptyDir; infer_instance
end Go.Proofs.YtbcdcakcmdcafaaGreat

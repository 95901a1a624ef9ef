/- What is proved: the words of an inode, and an inode read back, in plain Lean. No condition. -/
import Derived.Test.YtbcdcakcmdcafaaGreatMFree
namespace Go.Proofs.YtbcdcakcmdcafaaGreat
open Go Go.RowKit
set_option linter.unusedVariables false
set_option linter.unusedSimpArgs false
def byteI (b : UInt8) : Int := (b.toNat : Int)
def packE (e : DEnt) : List Int := e.ino :: (e.name.size : Int) :: e.name.data.toList.map byteI
def packTo (x : DInode) (k : Nat) : List Int := [x.kind, x.links, x.size] ++ x.blocks ++ [(x.ents.length : Int)] ++ ((x.ents.take k).map packE).flatten
def nameTo (P : List Int) (s : ByteArray) (j : Nat) : List Int := P ++ (s.data.toList.take j).map byteI
def packI (x : DInode) : List Int := if x.kind = 2 then packTo x x.ents.length else [x.kind, x.links, x.size] ++ x.blocks
theorem packI_f {x : DInode} (h : ¬ x.kind = 2) : [x.kind, x.links, x.size] ++ x.blocks = packI x := (if_neg h).symm
theorem packI_d {x : DInode} {k : Nat} (h : x.kind = 2) (hk : x.ents.length ≤ k) : packTo x k = packI x := by
  unfold packI packTo
  rw [if_pos h, List.take_of_length_le hk, List.take_length]
theorem packTo_0 (x : DInode) : ([x.kind, x.links, x.size] ++ x.blocks) ++ [(x.ents.length : Int)] = packTo x 0 := by simp [packTo]
theorem nameTo_0 (P : List Int) (s : ByteArray) : P = nameTo P s 0 := by simp [nameTo]
theorem nameTo_s {P : List Int} {s : ByteArray} {j : Nat} {b : UInt8} (h : s.data.toList[j]? = some b) : nameTo P s j ++ [(b.toNat : Int)] = nameTo P s (j + 1) := by
  unfold nameTo
  rw [← take_snoc h, List.map_append, List.append_assoc]
  rfl
theorem nameTo_len (P : List Int) (s : ByteArray) (j : Nat) : (nameTo P s j).length ≤ P.length + s.size := by
  unfold nameTo
  have := str_len s
  rw [List.length_append, List.length_map, List.length_take]
  omega
theorem packTo_s {x : DInode} {k j : Nat} {e : DEnt} (he : x.ents[k]? = some e) (hj : e.name.size ≤ j) : nameTo (packTo x k ++ [e.ino, (e.name.size : Int)]) e.name j = packTo x (k + 1) := by
  unfold nameTo packTo
  have h1 : e.name.data.toList.take j = e.name.data.toList := List.take_of_length_le (by rw [str_len]; exact hj)
  rw [h1, ← take_snoc he]
  simp [packE]
theorem ents_ok {x : DInode} (h : inodeFault x = 0) : ∀ (j : Nat) e, x.ents[j]? = some e → nameFault e.name = 0 ∧ 0 ≤ e.ino ∧ e.ino ≤ 9 := by
  unfold inodeFault at h
  split at h
  · split at h
    · exact absurd h (by decide)
    · rename_i h1 h2
      intro j e he
      have hj := (List.getElem?_eq_some_iff.1 he).1
      split at h
      · omega
      · split at h
        · unfold dirFault at h
          split at h
          · exact absurd h (by decide)
          · have h3 := firstF_all h j (List.mem_range.2 hj)
            unfold entAt at h3
            rw [he] at h3
            simp only [entOk] at h3
            split at h3
            · split at h3
              · rename_i h4 h5; exact ⟨h4, h5⟩
              · exact absurd h3 (by decide)
            · contradiction
        · omega
  · exact absurd h (by decide)
theorem name_size {x : DInode} (h : inodeFault x = 0) {j : Nat} {e : DEnt} (he : x.ents[j]? = some e) : e.name.size ≤ 4 := (name_4 (ents_ok h j e he).1).1
theorem packTo_len {x : DInode} (h : inodeFault x = 0) (k : Nat) : (packTo x k).length ≤ 44 := by
  have h4 := (blocks_4 h).1
  have h6 := ents_6 h
  have : (((x.ents.take k).map packE).flatten).length ≤ (x.ents.take k).length * 6 := by
    have hall : ∀ e, e ∈ x.ents.take k → (packE e).length ≤ 6 := fun e he => by
      obtain ⟨j, hj⟩ := List.mem_iff_getElem?.1 (List.mem_of_mem_take he)
      have := name_size h hj
      have := str_len e.name
      simp [packE]
      omega
    generalize x.ents.take k = es at hall
    induction es with
    | nil => simp
    | cons e es ih =>
      have h1 := hall e List.mem_cons_self
      have h2 := ih (fun e he => hall e (List.mem_cons_of_mem _ he))
      simp only [List.map_cons, List.flatten_cons, List.length_append, List.length_cons]
      omega
  rw [List.length_take] at this
  unfold packTo
  simp only [List.length_append, List.length_cons, List.length_nil]
  omega
theorem packI_len {x : DInode} (h : inodeFault x = 0) : (packI x).length ≤ 44 := by
  unfold packI
  split
  · exact packTo_len h _
  · have := (blocks_4 h).1
    simp only [List.length_append, List.length_cons, List.length_nil]
    omega
def packR (x : DInode) : RInts := if inodeFault x = 0 then ⟨0, packI x⟩ else ⟨inodeFault x, []⟩
theorem packR_f {x : DInode} (h : ¬ inodeFault x = 0) : packR x = ⟨inodeFault x, []⟩ := if_neg h
theorem packR_0 {x : DInode} (h : inodeFault x = 0) : packR x = ⟨0, packI x⟩ := if_pos h
end Go.Proofs.YtbcdcakcmdcafaaGreat

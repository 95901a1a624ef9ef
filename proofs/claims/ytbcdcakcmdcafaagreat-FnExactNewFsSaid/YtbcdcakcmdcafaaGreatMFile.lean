/- What is proved: new trees, reading files, dropping them, in plain Lean. No condition. -/
import Derived.Test.YtbcdcakcmdcafaaGreatArr
import Derived.Test.YtbcdcakcmdcafaaGreatFocus
namespace Go.Proofs.YtbcdcakcmdcafaaGreat
open Go Go.RowKit
set_option linter.unusedVariables false
set_option linter.unusedSimpArgs false
/-! ### new -/
def padD (data : List (List UInt8)) : List (List UInt8) := data ++ List.replicate (20 - data.length) []
theorem pad_0 (data : List (List UInt8)) : data = data ++ List.replicate 0 [] := by simp
theorem pad_s {data : List (List UInt8)} {k : Nat} : (data ++ List.replicate k []) ++ [[]] = data ++ List.replicate (k + 1) [] := by rw [List.append_assoc, ← List.replicate_succ']
theorem pad_len {data : List (List UInt8)} {k : Nat} : (data ++ List.replicate k []).length = data.length + k := by simp
theorem pad_all {data : List (List UInt8)} {k : Nat} (h1 : k ≤ 20 - data.length) (h2 : ¬ ((data ++ List.replicate k []).length : Int) < 20) : data ++ List.replicate k [] = padD data := by
  rw [pad_len] at h2
  unfold padD
  rw [show k = 20 - data.length by omega]
abbrev newF (data : List (List UInt8)) : DFs := ⟨[⟨2, 0, 0, [], []⟩], padD data⟩
noncomputable def newR (data : List (List UInt8)) : RFs := if fsFault (newF data) = 0 then ⟨0, newF data⟩ else ⟨fsFault (newF data), ⟨[], []⟩⟩
theorem newR_f {data : List (List UInt8)} (h : ¬ fsFault (newF data) = 0) : newR data = ⟨fsFault (newF data), ⟨[], []⟩⟩ := if_neg h
theorem newR_0 {data : List (List UInt8)} (h : fsFault (newF data) = 0) : newR data = ⟨0, newF data⟩ := if_pos h
/-! ### reading -/
theorem blocks_in {xs : List DInode} (h : inodesFault xs = 0) (a : Int) : ∀ b, b ∈ blocksAt xs a → 0 ≤ b ∧ b ≤ 19 := by
  unfold blocksAt
  cases hx : xs[a.toNat]? with
  | none => intro b hb; cases hb
  | some x => exact (blocks_4 (inodes_all h x (List.mem_of_getElem? hx))).2
theorem blocks_le {xs : List DInode} (h : inodesFault xs = 0) (a : Int) : (blocksAt xs a).length ≤ 4 := by
  unfold blocksAt
  cases hx : xs[a.toNat]? with
  | none => simp
  | some x => exact (blocks_4 (inodes_all h x (List.mem_of_getElem? hx))).1
theorem fileB_len {f : DFs} (h : treeFault f = 0) (a : Int) : (fileB f a).length ≤ 32 := bytesTo_len _ (blocks_le (treeI h) a) (data_8 h)
theorem minI_comm (a b : Int) : minI a b = minI b a := by have := minI_spec a b; have := minI_spec b a; omega
def partB (L : List UInt8) (i n : Int) : List UInt8 := subL L (minI i L.length).toNat (minI L.length (minI i L.length + n)).toNat
noncomputable def readR (f : DFs) (a i n : Int) : RBytes := if bytesCode f a = 0 then if (0 ≤ i ∧ i ≤ 1000) ∧ (0 ≤ n ∧ n ≤ 100) then ⟨0, partB (fileB f a) i n⟩ else ⟨3, []⟩ else ⟨bytesCode f a, []⟩
theorem readR_f {f : DFs} {a i n : Int} (h : ¬ bytesCode f a = 0) : readR f a i n = ⟨bytesCode f a, []⟩ := if_neg h
theorem readR_3 {f : DFs} {a i n : Int} (h : bytesCode f a = 0) (h2 : ¬ ((0 ≤ i ∧ i ≤ 1000) ∧ (0 ≤ n ∧ n ≤ 100))) : readR f a i n = ⟨3, []⟩ := by unfold readR; rw [if_pos h, if_neg h2]
theorem readR_0 {f : DFs} {a i n : Int} (h : bytesCode f a = 0) (h2 : (0 ≤ i ∧ i ≤ 1000) ∧ (0 ≤ n ∧ n ≤ 100)) : readR f a i n = ⟨0, partB (fileB f a) i n⟩ := by unfold readR; rw [if_pos h, if_pos h2]
noncomputable abbrev readC (i n : Int) : Int := if (0 ≤ i ∧ i ≤ 1000) ∧ (0 ≤ n ∧ n ≤ 100) then 0 else 3
noncomputable def readB (f : DFs) (a i n : Int) : List UInt8 := if (0 ≤ i ∧ i ≤ 1000) ∧ (0 ≤ n ∧ n ≤ 100) then partB (fileB f a) i n else []
theorem readC_0 {i n : Int} (h : (0 ≤ i ∧ i ≤ 1000) ∧ (0 ≤ n ∧ n ≤ 100)) : readC i n = 0 := if_pos h
theorem readC_3 {i n : Int} (h : ¬ ((0 ≤ i ∧ i ≤ 1000) ∧ (0 ≤ n ∧ n ≤ 100))) : readC i n = 3 := if_neg h
theorem readB_0 {f : DFs} {a i n : Int} (h : (0 ≤ i ∧ i ≤ 1000) ∧ (0 ≤ n ∧ n ≤ 100)) : readB f a i n = partB (fileB f a) i n := if_pos h
theorem readB_3 {f : DFs} {a i n : Int} (h : ¬ ((0 ≤ i ∧ i ≤ 1000) ∧ (0 ≤ n ∧ n ≤ 100))) : readB f a i n = [] := if_neg h
theorem readR_ {f : DFs} {a i n : Int} (h : bytesCode f a = 0) : readR f a i n = ⟨readC i n, readB f a i n⟩ := by
  by_cases h2 : (0 ≤ i ∧ i ≤ 1000) ∧ (0 ≤ n ∧ n ≤ 100)
  · rw [readR_0 h h2, readC_0 h2, readB_0 h2]
  · rw [readR_3 h h2, readC_3 h2, readB_3 h2]
theorem bytesR_code {f : DFs} {a : Int} : (bytesR f a).code = bytesCode f a := by
  unfold bytesR; split
  · rename_i h; exact h.symm
  · rfl
theorem bytesR_code0 {f : DFs} {a : Int} (h : (bytesR f a).code = 0) : bytesCode f a = 0 := by rwa [bytesR_code] at h
theorem bytesR_codeN {f : DFs} {a : Int} (h : ¬ (bytesR f a).code = 0) : ¬ bytesCode f a = 0 := by rwa [bytesR_code] at h
theorem bytesR_bytes {f : DFs} {a : Int} (h : bytesCode f a = 0) : (bytesR f a).bytes = fileB f a := by rw [bytesR_0 h]
theorem readR_b {f : DFs} {a i n : Int} (h : ¬ bytesCode f a = 0) : readR f a i n = bytesR f a := by rw [readR_f h, bytesR_f h]
/-! ### dropping -/
def dropB (data : List (List UInt8)) (bs : List Int) : Nat → List (List UInt8)
  | 0 => data
  | k + 1 => match bs[k]? with | some b => (dropB data bs k).set b.toNat [] | none => dropB data bs k
theorem dropB_s {data : List (List UInt8)} {bs : List Int} {k : Nat} {b : Int} (h : bs[k]? = some b) : (dropB data bs k).set b.toNat [] = dropB data bs (k + 1) := by simp only [dropB, h]
theorem dropB_len {data : List (List UInt8)} {bs : List Int} : ∀ k, (dropB data bs k).length = data.length
  | 0 => rfl
  | k + 1 => by
    simp only [dropB]
    split
    · rw [List.length_set]; exact dropB_len k
    · exact dropB_len k
abbrev dropAll (f : DFs) (a : Int) : List (List UInt8) := dropB f.data (blocksAt f.inodes a) (blocksAt f.inodes a).length
abbrev dropF (f : DFs) (a : Int) : DFs := ⟨f.inodes.set a.toNat ⟨0, 0, 0, [], []⟩, dropAll f a⟩
noncomputable def dropR (f : DFs) (a : Int) : RFs := if bytesCode f a = 0 then ⟨0, dropF f a⟩ else ⟨bytesCode f a, ⟨[], []⟩⟩
theorem dropR_f {f : DFs} {a : Int} (h : ¬ bytesCode f a = 0) : dropR f a = ⟨bytesCode f a, ⟨[], []⟩⟩ := if_neg h
theorem dropR_0 {f : DFs} {a : Int} (h : bytesCode f a = 0) : dropR f a = ⟨0, dropF f a⟩ := if_pos h
end Go.Proofs.YtbcdcakcmdcafaaGreat

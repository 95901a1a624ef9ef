/- What is proved: a whole file system's fault, the bytes of a file, in plain Lean. No condition. -/
import Derived.Test.YtbcdcakcmdcafaaGreatMReach
namespace Go.Proofs.YtbcdcakcmdcafaaGreat
open Go Go.RowKit
set_option linter.unusedVariables false
set_option linter.unusedSimpArgs false
def minI (a b : Int) : Int := if a < b then a else b
theorem minI_spec (a b : Int) : minI a b ≤ a ∧ minI a b ≤ b ∧ (minI a b = a ∨ minI a b = b) := by unfold minI; split <;> omega
theorem minI_a {a b : Int} (h : a < b) : minI a b = a := if_pos h
theorem minI_b {a b : Int} (h : ¬ a < b) : minI a b = b := if_neg h
theorem minI_sw (a b : Int) : (if b < a then b else a) = minI a b := by unfold minI; split <;> split <;> omega
/-! ### how long data should be -/
def wantI (x : DInode) (L : List Int) : Nat → List Int
  | 0 => L
  | q + 1 => match x.blocks[q]? with | some b => (wantI x L q).set b.toNat (minI 8 (x.size - ((q * 8 : Nat) : Int))) | none => wantI x L q
def wantTo (xs : List DInode) : Nat → List Int
  | 0 => List.replicate 20 0
  | k + 1 => match xs[k]? with | some x => wantI x (wantTo xs k) x.blocks.length | none => wantTo xs k
theorem wantI_s {x : DInode} {L : List Int} {q : Nat} {b : Int} (h : x.blocks[q]? = some b) : (wantI x L q).set b.toNat (minI 8 (x.size - ((q * 8 : Nat) : Int))) = wantI x L (q + 1) := by simp only [wantI, h]
theorem wantTo_s {xs : List DInode} {k q : Nat} {x : DInode} (h : xs[k]? = some x) (hq : x.blocks.length ≤ q) (hq2 : q ≤ x.blocks.length) : wantI x (wantTo xs k) q = wantTo xs (k + 1) := by
  have : q = x.blocks.length := by omega
  subst this
  simp only [wantTo, h]
theorem wantI_len {x : DInode} {L : List Int} : ∀ q, (wantI x L q).length = L.length
  | 0 => rfl
  | q + 1 => by
    simp only [wantI]
    split
    · rw [List.length_set]; exact wantI_len q
    · exact wantI_len q
theorem wantTo_len {xs : List DInode} : ∀ k, (wantTo xs k).length = 20
  | 0 => by simp [wantTo]
  | k + 1 => by
    simp only [wantTo]
    split
    · rw [wantI_len]; exact wantTo_len k
    · exact wantTo_len k
theorem size_32 {x : DInode} (h : inodeFault x = 0) : 0 ≤ x.size ∧ x.size ≤ 32 := by
  unfold inodeFault at h
  split at h
  · split at h
    · exact absurd h (by decide)
    · split at h
      · unfold fileFault at h
        split at h
        · rename_i h1; exact h1.2
        · exact absurd h (by decide)
      · omega
  · exact absurd h (by decide)
theorem kind_02 {x : DInode} (h : inodeFault x = 0) : 0 ≤ x.kind ∧ x.kind ≤ 2 := by
  unfold inodeFault at h
  split at h
  · assumption
  · exact absurd h (by decide)
abbrev lens (f : DFs) : List Int := wantTo f.inodes f.inodes.length
def DataOk (f : DFs) : Prop := ∀ (j : Nat) (b : List UInt8), f.data[j]? = some b → (lens f)[j]? = some (b.length : Int)
noncomputable instance (f : DFs) : Decidable (DataOk f) := Classical.propDecidable _
theorem data_no {f : DFs} {k : Nat} {b : List UInt8} {n : Int} (hb : f.data[k]? = some b) (hn : (lens f)[k]? = some n) (h : ¬ (b.length : Int) = n) : ¬ DataOk f := fun hd => by
  have := hd k b hb
  rw [hn] at this
  exact h (Option.some.inj this).symm
theorem data_yes {f : DFs} {k : Nat} (hk : f.data.length ≤ k) (ha : ∀ (j : Nat) (b : List UInt8), j < k → f.data[j]? = some b → (lens f)[j]? = some (b.length : Int)) : DataOk f := fun j b hb => ha j b (by have := (List.getElem?_eq_some_iff.1 hb).1; omega) hb
theorem data_s {f : DFs} {k : Nat} {b : List UInt8} {n : Int} (ha : ∀ (j : Nat) (b : List UInt8), j < k → f.data[j]? = some b → (lens f)[j]? = some (b.length : Int)) (hb : f.data[k]? = some b) (hn : (lens f)[k]? = some n) (h : (b.length : Int) = n) : ∀ (j : Nat) (b : List UInt8), j < k + 1 → f.data[j]? = some b → (lens f)[j]? = some (b.length : Int) :=
  all_succ (q := fun j (b : List UInt8) => (lens f)[j]? = some (b.length : Int)) ha hb (by rw [hn, h])
/-! ### links -/
structure LinkOk (f : DFs) (j : Nat) (x : DInode) : Prop where
  file : x.kind = 1 → x.links = (linksOf f.inodes (j : Int) : Int)
  root : x.kind = 2 → j = 0 → (linksOf f.inodes (j : Int) : Int) = 0
  dir : x.kind = 2 → 0 < j → (linksOf f.inodes (j : Int) : Int) = 1
  way : ¬ x.kind = 0 → (j : Int) ∈ reachL f.inodes 0
def LinksOk (f : DFs) : Prop := ∀ (j : Nat) (x : DInode), f.inodes[j]? = some x → LinkOk f j x
noncomputable instance (f : DFs) : Decidable (LinksOk f) := Classical.propDecidable _
theorem links_yes {f : DFs} {k : Nat} (hk : f.inodes.length ≤ k) (ha : ∀ j x, j < k → f.inodes[j]? = some x → LinkOk f j x) : LinksOk f := fun j x hx => ha j x (by have := (List.getElem?_eq_some_iff.1 hx).1; omega) hx
noncomputable def linksF (f : DFs) : Int := if LinksOk f then 0 else 1
noncomputable def dataF (f : DFs) : Int := if DataOk f then 0 else 1
theorem linksF_1 {f : DFs} (h : ¬ LinksOk f) : linksF f = 1 := if_neg h
theorem linksF_0 {f : DFs} (h : LinksOk f) : linksF f = 0 := if_pos h
theorem dataF_1 {f : DFs} (h : ¬ DataOk f) : dataF f = 1 := if_neg h
theorem dataF_0 {f : DFs} (h : DataOk f) : dataF f = 0 := if_pos h
noncomputable def fsFault (f : DFs) : Int := if treeFault f = 0 then if LinksOk f ∧ DataOk f then 0 else 1 else treeFault f
theorem fsFault_t {f : DFs} (h : ¬ treeFault f = 0) : fsFault f = treeFault f := if_neg h
theorem fsFault_1 {f : DFs} (h : treeFault f = 0) (h2 : ¬ LinksOk f ∨ ¬ DataOk f) : fsFault f = 1 := by unfold fsFault; rw [if_pos h, if_neg (fun hh => h2.elim (fun k => k hh.1) (fun k => k hh.2))]
theorem fsFault_0 {f : DFs} (h : treeFault f = 0) (h2 : LinksOk f) (h3 : DataOk f) : fsFault f = 0 := by unfold fsFault; rw [if_pos h, if_pos ⟨h2, h3⟩]
theorem fsFault_l {f : DFs} (h : treeFault f = 0) (h2 : ¬ linksF f = 0) : fsFault f = linksF f := by
  by_cases hl : LinksOk f
  · exact absurd (linksF_0 hl) h2
  · rw [fsFault_1 h (.inl hl), linksF_1 hl]
theorem fsFault_d {f : DFs} (h : treeFault f = 0) (h2 : linksF f = 0) : fsFault f = dataF f := by
  by_cases hl : LinksOk f
  · by_cases hd : DataOk f
    · rw [fsFault_0 h hl hd, dataF_0 hd]
    · rw [fsFault_1 h (.inr hd), dataF_1 hd]
  · rw [linksF_1 hl] at h2; exact absurd h2 (by decide)
theorem fsTree {f : DFs} (h : fsFault f = 0) : treeFault f = 0 := by
  unfold fsFault at h
  split at h
  · assumption
  · contradiction
theorem fsOk {f : DFs} (h : fsFault f = 0) : treeFault f = 0 ∧ LinksOk f ∧ DataOk f := by
  refine ⟨fsTree h, ?_⟩
  apply Classical.byContradiction
  intro hn
  by_cases hl : LinksOk f
  · have := fsFault_1 (fsTree h) (.inr fun hd => hn ⟨hl, hd⟩); omega
  · have := fsFault_1 (fsTree h) (.inl hl); omega
/-! ### the bytes of a file -/
noncomputable def bytesCode (f : DFs) (a : Int) : Int := if fsFault f = 0 then if placeIn f.inodes.length a then if kindAt f.inodes a = 2 then 9 else if kindAt f.inodes a = 0 then 4 else 0 else 3 else fsFault f
theorem bytesCode_f {f : DFs} {a : Int} (h : ¬ fsFault f = 0) : bytesCode f a = fsFault f := if_neg h
theorem bytesCode_3 {f : DFs} {a : Int} (h : fsFault f = 0) (h2 : ¬ placeIn f.inodes.length a) : bytesCode f a = 3 := by unfold bytesCode; rw [if_pos h, if_neg h2]
theorem bytesCode_9 {f : DFs} {a : Int} (h : fsFault f = 0) (h2 : placeIn f.inodes.length a) (h3 : kindAt f.inodes a = 2) : bytesCode f a = 9 := by unfold bytesCode; rw [if_pos h, if_pos h2, if_pos h3]
theorem bytesCode_4 {f : DFs} {a : Int} (h : fsFault f = 0) (h2 : placeIn f.inodes.length a) (h3 : ¬ kindAt f.inodes a = 2) (h4 : kindAt f.inodes a = 0) : bytesCode f a = 4 := by unfold bytesCode; rw [if_pos h, if_pos h2, if_neg h3, if_pos h4]
theorem bytesCode_0 {f : DFs} {a : Int} (h : fsFault f = 0) (h2 : placeIn f.inodes.length a) (h3 : ¬ kindAt f.inodes a = 2) (h4 : ¬ kindAt f.inodes a = 0) : bytesCode f a = 0 := by unfold bytesCode; rw [if_pos h, if_pos h2, if_neg h3, if_neg h4]
theorem bytesOk {f : DFs} {a : Int} (h : bytesCode f a = 0) : fsFault f = 0 ∧ placeIn f.inodes.length a ∧ ¬ kindAt f.inodes a = 2 ∧ ¬ kindAt f.inodes a = 0 := by
  unfold bytesCode at h
  split at h
  · split at h
    · split at h
      · exact absurd h (by decide)
      · split at h
        · exact absurd h (by decide)
        · rename_i h1 h2 h3 h4; exact ⟨h1, h2, h3, h4⟩
    · exact absurd h (by decide)
  · contradiction
def blockD (data : List (List UInt8)) (b : Int) : List UInt8 := data.getD b.toNat []
def bytesTo (data : List (List UInt8)) (bs : List Int) (k : Nat) : List UInt8 := ((bs.take k).map (blockD data)).flatten
def blocksAt (xs : List DInode) (a : Int) : List Int := match xs[a.toNat]? with | some x => x.blocks | none => []
theorem blocks_at {xs : List DInode} {a : Int} {j : Nat} {x : DInode} (hx : xs[j]? = some x) (h : a = (j : Int)) : blocksAt xs a = x.blocks := by
  subst h
  unfold blocksAt
  rw [Int.toNat_natCast, hx]
def fileB (f : DFs) (a : Int) : List UInt8 := bytesTo f.data (blocksAt f.inodes a) (blocksAt f.inodes a).length
theorem bytesTo_s {data : List (List UInt8)} {bs : List Int} {k : Nat} {b : Int} {d : List UInt8} (hb : bs[k]? = some b) (hd : data[b.toNat]? = some d) : bytesTo data bs k ++ d = bytesTo data bs (k + 1) := by
  unfold bytesTo
  rw [← take_snoc hb, List.map_append, List.flatten_append]
  simp [blockD, hd]
theorem bytesTo_all {data : List (List UInt8)} {bs : List Int} {k : Nat} (h : bs.length ≤ k) : bytesTo data bs k = bytesTo data bs bs.length := by
  unfold bytesTo; rw [List.take_of_length_le h, List.take_length]
theorem bytesTo_len {data : List (List UInt8)} {bs : List Int} (k : Nat) (h4 : bs.length ≤ 4) (h8 : ∀ d, d ∈ data → d.length ≤ 8) : (bytesTo data bs k).length ≤ 32 := by
  unfold bytesTo
  have h1 : (bs.take k).length ≤ 4 := by rw [List.length_take]; omega
  have h2 : ∀ l : List Int, ((l.map (blockD data)).flatten).length ≤ l.length * 8 := by
    intro l
    induction l with
    | nil => simp
    | cons b l ih =>
      have : (blockD data b).length ≤ 8 := by
        unfold blockD
        rw [List.getD_eq_getElem?_getD]
        cases hd : data[b.toNat]? with
        | none => simp
        | some d => simpa using h8 d (List.mem_of_getElem? hd)
      simp only [List.map_cons, List.flatten_cons, List.length_append, List.length_cons]
      omega
  have := h2 (bs.take k)
  omega
theorem data_8 {f : DFs} (h : treeFault f = 0) : ∀ d, d ∈ f.data → d.length ≤ 8 := fun d hd => by
  have h1 := (treeOk h).2.1
  unfold bigD at h1
  rw [List.any_eq_false] at h1
  have := h1 d hd
  simp only [decide_eq_true_eq] at this
  omega
theorem data_20 {f : DFs} (h : treeFault f = 0) : f.data.length = 20 := (rootOk (treeOk h).1).2.2.2
noncomputable def bytesR (f : DFs) (a : Int) : RBytes := if bytesCode f a = 0 then ⟨0, fileB f a⟩ else ⟨bytesCode f a, []⟩
theorem bytesR_f {f : DFs} {a : Int} (h : ¬ bytesCode f a = 0) : bytesR f a = ⟨bytesCode f a, []⟩ := if_neg h
theorem bytesR_0 {f : DFs} {a : Int} (h : bytesCode f a = 0) : bytesR f a = ⟨0, fileB f a⟩ := if_pos h
end Go.Proofs.YtbcdcakcmdcafaaGreat

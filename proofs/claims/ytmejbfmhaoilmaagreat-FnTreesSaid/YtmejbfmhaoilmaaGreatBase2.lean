/- What is proved: one element of a slice of one's own, taken out and put back; a part of a slice of one's own, read; a row's cells as a slice of structs. No condition. -/
import Derived.Test.YtmejbfmhaoilmaaGreatBase1
import Derived.Lib.SplitLaws
import Derived.Lib.Join
import Derived.Lib.Overlaps
import Derived.Lib.AppendZerosOnto
import Derived.Test.YtmejbfmhaoilmaaGreatBase0
namespace Go.Proofs.YtmejbfmhaoilmaaGreat
open Go Go.RowKit
set_option linter.unusedVariables false
set_option linter.unusedSimpArgs false
theorem seqA_at {α : Type} {K : Kd α} : ∀ {xs : List α} {css : List (List Value)} {j : Nat} {x : α} {c : List Value}, xs[j]? = some x → css[j]? = some c → seqA K xs css = seqA K (xs.take j) (css.take j) ++ ownA K x c :: seqA K (xs.drop (j + 1)) (css.drop (j + 1))
  | [], _, _, _, _, hx, _ => by simp at hx
  | _, [], _, _, _, _, hc => by simp at hc
  | y :: xs, d :: css, 0, x, c, hx, hc => by
    simp at hx hc
    subst hx; subst hc
    rfl
  | y :: xs, d :: css, j + 1, x, c, hx, hc => by
    have ih := seqA_at (K := K) (xs := xs) (css := css) (j := j) (x := x) (c := c) (by simpa using hx) (by simpa using hc)
    rw [seqA_cons, ih]
    rfl
theorem seq_split {α : Type} {K : Kd α} {xs : List α} {css : List (List Value)} {j : Nat} {x : α} {c : List Value} (hx : xs[j]? = some x) (hc : css[j]? = some c) (w : World) (S : Bs) (h : (seqC K xs css).p w S) : Star [ownA K x c, seqC K (xs.take j) (css.take j), seqC K (xs.drop (j + 1)) (css.drop (j + 1))] w S := by
  have h1 : Star (seqA K xs css) w S := h
  rw [seqA_at hx hc] at h1
  obtain ⟨A, B, hA, ⟨B1, B2, h2, h3, i1, i2, d1⟩, i, k, d⟩ := h1.split
  exact ⟨B1, fun b => A b ∨ B2 b, h2, ⟨A, B2, hA, Star.one (c := seqC K _ _) h3, fun _ h => .inl h, fun _ h => .inr h, fun b ha hb => d b ha (i2 b hb)⟩, fun b hb => k b (i1 b hb), fun b hb => hb.elim (i b) (fun h => k b (i2 b h)), fun b hb hb2 => hb2.elim (fun h => d b h (i1 b hb)) (d1 b hb)⟩
theorem seq_join {α : Type} {K : Kd α} {xs : List α} {css : List (List Value)} {j : Nat} {x : α} {c : List Value} (hx : xs[j]? = some x) (hc : css[j]? = some c) (w : World) (S : Bs) (h : Star [ownA K x c, seqC K (xs.take j) (css.take j), seqC K (xs.drop (j + 1)) (css.drop (j + 1))] w S) : (seqC K xs css).p w S := by
  obtain ⟨B1, C, h2, ⟨A, B2, hA, h3, i1, i2, d1⟩, i, k, d⟩ := h
  show Star (seqA K xs css) w S
  rw [seqA_at hx hc]
  have h3' : Star (seqA K (xs.drop (j + 1)) (css.drop (j + 1))) w B2 := Star.head (c := seqC K _ _) h3
  exact Star.app hA ⟨B1, B2, h2, h3', fun _ h => .inl h, fun _ h => .inr h, fun b hb hb2 => d b hb (i2 b hb2)⟩ (S2 := fun b => B1 b ∨ B2 b) (fun b hb => k b (i1 b hb)) (fun b hb => hb.elim (i b) (fun h => k b (i2 b h))) (fun b ha hb => hb.elim (fun h => d b h (i1 b ha)) (d1 b ha))
theorem own_unfocus {α : Type} {K : Kd α} {e by_ : Nat} {xs : List α} {css css' : List (List Value)} {j : Nat} {x : α} {c : List Value} {v : Value} (hl : css.length = xs.length) (hj : j < xs.length) (he : css' = css.set j c) (w : World) (S : Bs)
    (h : Star [ownA (kslice e by_ (kraw K.sz K.pos)) css' [v], ownA K x c, seqC K (xs.take j) (css.take j), seqC K (xs.drop (j + 1)) (css.drop (j + 1))] w S) : (ownA (kslice e by_ K) (xs.set j x) [v]).p w S := by
  subst he
  obtain ⟨A, B, hA, hB, i, k, d⟩ := h
  refine raw_own (xs := xs.set j x) (css := css.set j c) (by rw [List.length_set, List.length_set]; exact hl) w S ⟨A, B, hA, Star.one (c := seqC K _ _) (seq_join (j := j) (x := x) (c := c) (by rw [List.getElem?_set_self hj]) (by rw [List.getElem?_set_self (by omega)]) w B ?_), i, k, d⟩
  rw [List.take_set_of_le (Nat.le_refl j), List.take_set_of_le (Nat.le_refl j), List.drop_set_of_lt (Nat.lt_succ_self j), List.drop_set_of_lt (Nat.lt_succ_self j)]
  exact hB
theorem own_unfocus0 {α : Type} {K : Kd α} {e by_ : Nat} {xs : List α} {css : List (List Value)} {j : Nat} {x : α} {c : List Value} {v : Value} (hl : css.length = xs.length) (hx : xs[j]? = some x) (hc : css[j]? = some c) (w : World) (S : Bs)
    (h : Star [ownA (kslice e by_ (kraw K.sz K.pos)) css [v], ownA K x c, seqC K (xs.take j) (css.take j), seqC K (xs.drop (j + 1)) (css.drop (j + 1))] w S) : (ownA (kslice e by_ K) xs [v]).p w S := by
  obtain ⟨A, B, hA, hB, i, k, d⟩ := h
  exact raw_own hl w S ⟨A, B, hA, Star.one (c := seqC K _ _) (seq_join hx hc w B hB), i, k, d⟩
theorem lit1_own {α : Type} {K : Kd α} {e by_ g sz : Nat} {x : α} {cs : List Value} (hsz : K.sz = sz) (hl : cs.length = sz) (hb : by_ ≤ 140737488355328) (w : World) (S : Bs) (h : Star [rowA g e sz 1 cs, ownA K x cs] w S) : (ownA (kslice e by_ K) [x] [.slice (some ⟨g, 0, none⟩) 1 1]).p w S := by
  subst hsz
  obtain ⟨A, B, hA, hB, i, k, d⟩ := h
  exact .inr ⟨g, 1, [cs], rfl, Nat.le_refl _, by omega, by simpa using hb, rfl, A, B, by simpa using hA, ⟨B, fun _ => False, Star.head (c := ownA K x cs) hB, trivial, fun _ h => h, fun _ h => h.elim, fun _ _ h => h⟩, i, k, d⟩
theorem Tr.ptrpre {w0 : World} {S0 : Bs} {l' : List Asn} {α : Type} {K : Kd α} {w : World} {S1 : Bs} {lr : List Asn} {g e sz c : Nat} {ecs cs : List Value} {x : α} (tr : Tr w0 S0 w S1 lr) (tk : Take lr (rowA g e sz c ecs) l') (hr : K.ro w (FF w S1) x cs) (hs : ∀ (i : Nat) (u : Value), cs[i]? = some u → ecs[i]? = some u) : PtrRo K w (FF w S1) ⟨g, 0, none⟩ x := by
  obtain ⟨S2, hst, hsub⟩ := tr.all
  have h := (hst.take tk).head
  refine ⟨cs, hsub _ h.1, hr, fun i u hu => ?_⟩
  rw [add_plain']
  exact row_cell h (hs i u hu)
section
variable {P : Program} {T : Slots} {Wd : World → Prop} {o : Oper}
theorem q_field {x : Operand} {s f : Nat} {v u : Value} (ho : o.op = .field s x f) (hx : Val T x v) (hs : ∀ w, (Instr.field s v f).run P w = .ok u w) : Quiet P o T Wd u := fun a w ha _ => by
  simp only [execOp, ho, hx a ha]; simp [hs w]
end
end Go.Proofs.YtmejbfmhaoilmaaGreat
/- What is proved: new trees, reading files, dropping them, in plain Lean. No condition. -/
namespace Go.Proofs.YtmejbfmhaoilmaaGreat
open Go Go.RowKit
set_option linter.unusedVariables false
set_option linter.unusedSimpArgs false
def padD (data : List (List UInt8)) : List (List UInt8) := data ++ List.replicate (20 - data.length) []
theorem pad_0 (data : List (List UInt8)) : data = data ++ List.replicate 0 [] := by simp
theorem pad_s {data : List (List UInt8)} {k : Nat} : (data ++ List.replicate k []) ++ [[]] = data ++ List.replicate (k + 1) [] := by rw [List.append_assoc, ← List.replicate_succ']
theorem pad_len {data : List (List UInt8)} {k : Nat} : (data ++ List.replicate k []).length = data.length + k := by simp
theorem pad_all {data : List (List UInt8)} {k : Nat} (h1 : k ≤ 20 - data.length) (h2 : ¬ ((data ++ List.replicate k []).length : Int) < 20) : data ++ List.replicate k [] = padD data := by
  rw [pad_len] at h2
  unfold padD
  rw [show k = 20 - data.length by omega]
abbrev newF (data : List (List UInt8)) : DFs := ⟨[⟨2, 0, 0, [], []⟩], padD data⟩
noncomputable def newR (data : List (List UInt8)) : RFs := if fsFault (newF data) = 0 then ⟨0, newF data⟩ else ⟨fsFault (newF data), ⟨[], []⟩⟩
theorem newR_f {data : List (List UInt8)} (h : ¬ fsFault (newF data) = 0) : newR data = ⟨fsFault (newF data), ⟨[], []⟩⟩ := if_neg h
theorem newR_0 {data : List (List UInt8)} (h : fsFault (newF data) = 0) : newR data = ⟨0, newF data⟩ := if_pos h
theorem blocks_in {xs : List DInode} (h : inodesFault xs = 0) (a : Int) : ∀ b, b ∈ blocksAt xs a → 0 ≤ b ∧ b ≤ 19 := by
  unfold blocksAt
  cases hx : xs[a.toNat]? with
  | none => intro b hb; cases hb
  | some x => exact (blocks_4 (inodes_all h x (List.mem_of_getElem? hx))).2
theorem blocks_le {xs : List DInode} (h : inodesFault xs = 0) (a : Int) : (blocksAt xs a).length ≤ 4 := by
  unfold blocksAt
  cases hx : xs[a.toNat]? with
  | none => simp
  | some x => exact (blocks_4 (inodes_all h x (List.mem_of_getElem? hx))).1
theorem fileB_len {f : DFs} (h : treeFault f = 0) (a : Int) : (fileB f a).length ≤ 32 := bytesTo_len _ (blocks_le (treeI h) a) (data_8 h)
theorem minI_comm (a b : Int) : minI a b = minI b a := by have := minI_spec a b; have := minI_spec b a; omega
def partB (L : List UInt8) (i n : Int) : List UInt8 := subL L (minI i L.length).toNat (minI L.length (minI i L.length + n)).toNat
noncomputable def readR (f : DFs) (a i n : Int) : RBytes := if bytesCode f a = 0 then if (0 ≤ i ∧ i ≤ 1000) ∧ (0 ≤ n ∧ n ≤ 100) then ⟨0, partB (fileB f a) i n⟩ else ⟨3, []⟩ else ⟨bytesCode f a, []⟩
theorem readR_f {f : DFs} {a i n : Int} (h : ¬ bytesCode f a = 0) : readR f a i n = ⟨bytesCode f a, []⟩ := if_neg h
theorem readR_3 {f : DFs} {a i n : Int} (h : bytesCode f a = 0) (h2 : ¬ ((0 ≤ i ∧ i ≤ 1000) ∧ (0 ≤ n ∧ n ≤ 100))) : readR f a i n = ⟨3, []⟩ := by unfold readR; rw [if_pos h, if_neg h2]
theorem readR_0 {f : DFs} {a i n : Int} (h : bytesCode f a = 0) (h2 : (0 ≤ i ∧ i ≤ 1000) ∧ (0 ≤ n ∧ n ≤ 100)) : readR f a i n = ⟨0, partB (fileB f a) i n⟩ := by unfold readR; rw [if_pos h, if_pos h2]
theorem bytesR_code {f : DFs} {a : Int} : (bytesR f a).code = bytesCode f a := by
  unfold bytesR; split
  · rename_i h; exact h.symm
  · rfl
theorem bytesR_code0 {f : DFs} {a : Int} (h : (bytesR f a).code = 0) : bytesCode f a = 0 := by rwa [bytesR_code] at h
theorem bytesR_codeN {f : DFs} {a : Int} (h : ¬ (bytesR f a).code = 0) : ¬ bytesCode f a = 0 := by rwa [bytesR_code] at h
theorem bytesR_bytes {f : DFs} {a : Int} (h : bytesCode f a = 0) : (bytesR f a).bytes = fileB f a := by rw [bytesR_0 h]
theorem readR_b {f : DFs} {a i n : Int} (h : ¬ bytesCode f a = 0) : readR f a i n = bytesR f a := by rw [readR_f h, bytesR_f h]
def dropB (data : List (List UInt8)) (bs : List Int) : Nat → List (List UInt8)
  | 0 => data
  | k + 1 => match bs[k]? with | some b => (dropB data bs k).set b.toNat [] | none => dropB data bs k
theorem dropB_s {data : List (List UInt8)} {bs : List Int} {k : Nat} {b : Int} (h : bs[k]? = some b) : (dropB data bs k).set b.toNat [] = dropB data bs (k + 1) := by simp only [dropB, h]
theorem dropB_len {data : List (List UInt8)} {bs : List Int} : ∀ k, (dropB data bs k).length = data.length
  | 0 => rfl
  | k + 1 => by
    simp only [dropB]
    split
    · rw [List.length_set]; exact dropB_len k
    · exact dropB_len k
abbrev dropAll (f : DFs) (a : Int) : List (List UInt8) := dropB f.data (blocksAt f.inodes a) (blocksAt f.inodes a).length
abbrev dropF (f : DFs) (a : Int) : DFs := ⟨f.inodes.set a.toNat ⟨0, 0, 0, [], []⟩, dropAll f a⟩
end Go.Proofs.YtmejbfmhaoilmaaGreat
/- What is proved: names taken out of a directory, in plain Lean. No condition. -/
namespace Go.Proofs.YtmejbfmhaoilmaaGreat
open Go Go.RowKit
set_option linter.unusedVariables false
set_option linter.unusedSimpArgs false
abbrev notP {α : Type} (p : α → Bool) : α → Bool := fun e => !p e
theorem idxF_at {α : Type} {p : α → Bool} {xs : List α} (h : ¬ idxF p xs = -1) : ∃ i : Nat, idxF p xs = (i : Int) ∧ i < xs.length ∧ (xs.take (i + 1)).filter (notP p) = xs.take i := by
  unfold idxF at h ⊢
  cases hf : xs.findIdx? p with
  | none => rw [hf] at h; exact absurd rfl h
  | some i =>
    obtain ⟨hi, hp, hn⟩ := List.findIdx?_eq_some_iff_getElem.1 hf
    refine ⟨i, rfl, hi, ?_⟩
    rw [← take_snoc (List.getElem?_eq_getElem hi), List.filter_append]
    have h1 : [xs[i]].filter (notP p) = [] := by simp [notP, hp]
    rw [h1, List.append_nil, List.filter_eq_self]
    intro x hx
    obtain ⟨j, hj, rfl⟩ := List.mem_take_iff_getElem.1 hx
    have := hn j (by omega)
    simpa [notP] using this
def withE (xs : List DInode) (a : Int) (es : List DEnt) : List DInode := match xs[a.toNat]? with | some y => xs.set a.toNat ⟨y.kind, y.links, y.size, y.blocks, es⟩ | none => xs
def withL (xs : List DInode) (a : Int) (n : Int) : List DInode := match xs[a.toNat]? with | some y => xs.set a.toNat ⟨y.kind, n, y.size, y.blocks, y.ents⟩ | none => xs
def linksAt (xs : List DInode) (a : Int) : Int := match xs[a.toNat]? with | some x => x.links | none => 0
theorem withE_at {xs : List DInode} {a : Int} {es : List DEnt} {j : Nat} {y : DInode} (h : xs[j]? = some y) (hj : a = (j : Int)) : xs.set j ⟨y.kind, y.links, y.size, y.blocks, es⟩ = withE xs a es := by
  subst hj; unfold withE; rw [Int.toNat_natCast, h]
theorem withL_at {xs : List DInode} {a n : Int} {j : Nat} {y : DInode} (h : xs[j]? = some y) (hj : a = (j : Int)) : xs.set j ⟨y.kind, n, y.size, y.blocks, y.ents⟩ = withL xs a n := by
  subst hj; unfold withL; rw [Int.toNat_natCast, h]
theorem links_at {xs : List DInode} {a : Int} {j : Nat} {x : DInode} (hx : xs[j]? = some x) (h : a = (j : Int)) : linksAt xs a = x.links := by
  subst h; unfold linksAt; rw [Int.toNat_natCast, hx]
theorem withE_len {xs : List DInode} {a : Int} {es : List DEnt} : (withE xs a es).length = xs.length := by
  unfold withE; split <;> simp
theorem withL_len {xs : List DInode} {a n : Int} : (withL xs a n).length = xs.length := by
  unfold withL; split <;> simp
theorem withE_get {xs : List DInode} {a : Int} {es : List DEnt} (j : Nat) : ∀ y, (withE xs a es)[j]? = some y → ∃ x, xs[j]? = some x ∧ y = ⟨x.kind, x.links, x.size, x.blocks, if j = a.toNat then es else x.ents⟩ := fun y hy => by
  unfold withE at hy
  cases h : xs[a.toNat]? with
  | none =>
    rw [h] at hy
    refine ⟨y, hy, ?_⟩
    rw [if_neg (fun e => by subst e; rw [h] at hy; cases hy)]
  | some x =>
    rw [h] at hy
    simp only at hy
    rw [List.getElem?_set] at hy
    split at hy
    · rename_i e
      split at hy
      · obtain rfl := Option.some.inj hy
        refine ⟨x, by rw [← e]; exact h, by rw [if_pos e.symm]⟩
      · cases hy
    · rename_i e
      exact ⟨y, hy, by rw [if_neg (fun e2 => e e2.symm)]⟩
theorem withL_get {xs : List DInode} {a n : Int} (j : Nat) : ∀ y, (withL xs a n)[j]? = some y → ∃ x, xs[j]? = some x ∧ y = ⟨x.kind, if j = a.toNat then n else x.links, x.size, x.blocks, x.ents⟩ := fun y hy => by
  unfold withL at hy
  cases h : xs[a.toNat]? with
  | none =>
    rw [h] at hy
    refine ⟨y, hy, ?_⟩
    rw [if_neg (fun e => by subst e; rw [h] at hy; cases hy)]
  | some x =>
    rw [h] at hy
    simp only at hy
    rw [List.getElem?_set] at hy
    split at hy
    · rename_i e
      split at hy
      · obtain rfl := Option.some.inj hy
        refine ⟨x, by rw [← e]; exact h, by rw [if_pos e.symm]⟩
      · cases hy
    · rename_i e
      exact ⟨y, hy, by rw [if_neg (fun e2 => e e2.symm)]⟩
theorem withE_kind {xs : List DInode} {a k : Int} {es : List DEnt} : kindAt (withE xs a es) k = kindAt xs k := by
  unfold kindAt
  cases h : (withE xs a es)[k.toNat]? with
  | none =>
    rw [List.getElem?_eq_none_iff, withE_len] at h
    rw [List.getElem?_eq_none h]
  | some y =>
    obtain ⟨x, hx, rfl⟩ := withE_get _ y h
    rw [hx]
theorem withE_links {xs : List DInode} {a k : Int} {es : List DEnt} : linksAt (withE xs a es) k = linksAt xs k := by
  unfold linksAt
  cases h : (withE xs a es)[k.toNat]? with
  | none =>
    rw [List.getElem?_eq_none_iff, withE_len] at h
    rw [List.getElem?_eq_none h]
  | some y =>
    obtain ⟨x, hx, rfl⟩ := withE_get _ y h
    rw [hx]
theorem withL_blocks {xs : List DInode} {a k n : Int} : blocksAt (withL xs a n) k = blocksAt xs k := by
  unfold blocksAt
  cases h : (withL xs a n)[k.toNat]? with
  | none =>
    rw [List.getElem?_eq_none_iff, withL_len] at h
    rw [List.getElem?_eq_none h]
  | some y =>
    obtain ⟨x, hx, rfl⟩ := withL_get _ y h
    rw [hx]
theorem sumF_set_eq {α : Type} (f : α → Nat) : ∀ {xs : List α} {i : Nat} {x y : α}, xs[i]? = some x → sumF f (xs.set i y) + f x = sumF f xs + f y
  | [], _, _, _, h => by simp at h
  | z :: xs, 0, x, y, h => by simp at h; subst h; simp only [List.set_cons_zero, sumF]; omega
  | z :: xs, i + 1, x, y, h => by
    have := sumF_set_eq f (xs := xs) (i := i) (x := x) (y := y) (by simpa using h)
    simp only [List.set_cons_succ, sumF]; omega
theorem withL_of {xs : List DInode} {a k n : Int} : linksOf (withL xs a n) k = linksOf xs k := by
  unfold withL
  split
  · rename_i y hy
    have := sumF_set_eq (linksIn k) (y := ⟨y.kind, n, y.size, y.blocks, y.ents⟩) hy
    unfold linksOf
    have e : linksIn k ⟨y.kind, n, y.size, y.blocks, y.ents⟩ = linksIn k y := rfl
    omega
  · rfl
def inoAt (es : List DEnt) (i : Nat) : Int := match es[i]? with | some e => e.ino | none => -1
theorem inoAt_of {es : List DEnt} {i : Nat} {e : DEnt} (h : es[i]? = some e) : inoAt es i = e.ino := by unfold inoAt; rw [h]
abbrev takeF (f : DFs) (a : Int) (es : List DEnt) : DFs := ⟨withE f.inodes a es, f.data⟩
def lessF (f : DFs) (k : Int) : DFs := if kindAt f.inodes k = 1 then if 1 < linksAt f.inodes k then ⟨withL f.inodes k (linksAt f.inodes k - 1), f.data⟩ else if linksOf f.inodes k = 0 then dropF f k else f else f
theorem lessF_k {f : DFs} {k : Int} (h : ¬ kindAt f.inodes k = 1) : lessF f k = f := if_neg h
theorem lessF_l {f : DFs} {k : Int} (h : kindAt f.inodes k = 1) (h2 : 1 < linksAt f.inodes k) : lessF f k = ⟨withL f.inodes k (linksAt f.inodes k - 1), f.data⟩ := by unfold lessF; rw [if_pos h, if_pos h2]
theorem lessF_d {f : DFs} {k : Int} (h : kindAt f.inodes k = 1) (h2 : ¬ 1 < linksAt f.inodes k) (h3 : linksOf f.inodes k = 0) : lessF f k = dropF f k := by unfold lessF; rw [if_pos h, if_neg h2, if_pos h3]
theorem lessF_s {f : DFs} {k : Int} (h : kindAt f.inodes k = 1) (h2 : ¬ 1 < linksAt f.inodes k) (h3 : ¬ linksOf f.inodes k = 0) : lessF f k = f := by unfold lessF; rw [if_pos h, if_neg h2, if_neg h3]
theorem dropF_withL {f : DFs} {k n : Int} : dropF ⟨withL f.inodes k n, f.data⟩ k = dropF f k := by
  have h : (withL f.inodes k n).set k.toNat ⟨0, 0, 0, [], []⟩ = f.inodes.set k.toNat ⟨0, 0, 0, [], []⟩ := by
    unfold withL
    split
    · rw [List.set_set]
    · rfl
  simp only [dropF, dropAll, h, withL_blocks]
theorem withL_same {xs : List DInode} {k : Int} : withL xs k (linksAt xs k) = xs := by
  unfold withL linksAt
  cases h : xs[k.toNat]? with
  | none => rfl
  | some y =>
    obtain ⟨hk, rfl⟩ := List.getElem?_eq_some_iff.1 h
    exact List.set_getElem_self hk
theorem withL_withL {xs : List DInode} {k m n : Int} : withL (withL xs k m) k n = withL xs k n := by
  unfold withL
  cases h : xs[k.toNat]? with
  | none => simp only [h]
  | some y =>
    have hk := (List.getElem?_eq_some_iff.1 h).1
    simp only [List.getElem?_set_self hk, List.set_set]
theorem look_ino {es : List DEnt} {s : ByteArray} {ix : Nat} (h : idxF (nameP s) es = (ix : Int)) : lookI es s = inoAt es ix := by
  have hr := idxF_rng (nameP s) es
  obtain ⟨e, he⟩ := get_ex (xs := es) (j := ix) (by omega)
  rw [inoAt_of he]
  exact look_at (by omega) (by rw [h, Int.toNat_natCast]; exact he)
theorem look_idx {es : List DEnt} {s : ByteArray} (h : ¬ lookI es s < 0) : ∃ ix : Nat, idxF (nameP s) es = (ix : Int) := by
  by_cases h2 : idxF (nameP s) es < 0
  · rw [look_none h2] at h; exact absurd (by decide) h
  · exact ⟨(idxF (nameP s) es).toNat, by omega⟩
structure LessPre (f : DFs) (k : Int) : Prop where
  p : placeIn f.inodes.length k
  d : f.data.length = 20
  b : ∀ b, b ∈ blocksAt f.inodes k → 0 ≤ b ∧ b ≤ 19
  l : linksOf f.inodes k ≤ 60
  k : kindAt f.inodes k = 1 → 1 ≤ linksAt f.inodes k ∧ linksAt f.inodes k ≤ 60
theorem ent_place {f : DFs} (ht : treeFault f = 0) {a : Int} {i : Nat} {e : DEnt} (h : (entsAt f.inodes a)[i]? = some e) : placeIn f.inodes.length e.ino := by
  unfold entsAt at h
  cases hx : f.inodes[a.toNat]? with
  | none => rw [hx] at h; simp at h
  | some x =>
    rw [hx] at h
    simp only at h
    have h1 := ent_in (treeG ht _ x hx i e h)
    have h2 := ents_ok (inodes_all (treeI ht) x (List.mem_of_getElem? hx)) i e h
    exact ⟨h2.2.1, by omega⟩
theorem ino_place {f : DFs} (ht : treeFault f = 0) {a : Int} {i : Nat} (h : i < (entsAt f.inodes a).length) : placeIn f.inodes.length (inoAt (entsAt f.inodes a) i) := by
  obtain ⟨e, he⟩ := get_ex h
  rw [inoAt_of he]
  exact ent_place ht he
theorem look_place {f : DFs} (ht : treeFault f = 0) {a : Int} {s : ByteArray} (h : ¬ lookI (entsAt f.inodes a) s < 0) : placeIn f.inodes.length (lookI (entsAt f.inodes a) s) := by
  obtain ⟨ix, hi⟩ := look_idx h
  have hr := idxF_rng (nameP s) (entsAt f.inodes a)
  rw [look_ino hi]
  exact ino_place ht (by omega)
theorem withL_pre {f : DFs} {k n : Int} (h : LessPre f k) : placeIn (withL f.inodes k n).length k ∧ ∀ b, b ∈ blocksAt (withL f.inodes k n) k → 0 ≤ b ∧ b ≤ 19 := ⟨by rw [withL_len]; exact h.p, by rw [withL_blocks]; exact h.b⟩
end Go.Proofs.YtmejbfmhaoilmaaGreat
/- What is proved: the bytes of a file, set anew, in plain Lean. No condition. -/
namespace Go.Proofs.YtmejbfmhaoilmaaGreat
open Go Go.RowKit
set_option linter.unusedVariables false
set_option linter.unusedSimpArgs false
def shareB (L : List UInt8) (k : Nat) : List UInt8 := subL L (k * 8) (min ((k + 1) * 8) L.length)
def setD (data : List (List UInt8)) (bs : List Int) (L : List UInt8) : Nat → List (List UInt8)
  | 0 => data
  | k + 1 => match bs[k]? with | some b => (setD data bs L k).set b.toNat (shareB L k) | none => setD data bs L k
theorem setD_s {data : List (List UInt8)} {bs : List Int} {L : List UInt8} {k : Nat} {b : Int} (h : bs[k]? = some b) : (setD data bs L k).set b.toNat (shareB L k) = setD data bs L (k + 1) := by simp only [setD, h]
theorem setD_len {data : List (List UInt8)} {bs : List Int} {L : List UInt8} : ∀ k, (setD data bs L k).length = data.length
  | 0 => rfl
  | k + 1 => by
    simp only [setD]
    split
    · rw [List.length_set]; exact setD_len k
    · exact setD_len k
def withB (xs : List DInode) (a : Int) (n : Int) (ws : List Int) : List DInode := match xs[a.toNat]? with | some y => xs.set a.toNat ⟨y.kind, y.links, n, ws, y.ents⟩ | none => xs
theorem withB_at {xs : List DInode} {a n : Int} {ws : List Int} {j : Nat} {y : DInode} (h : xs[j]? = some y) (hj : a = (j : Int)) : xs.set j ⟨y.kind, y.links, n, ws, y.ents⟩ = withB xs a n ws := by
  subst hj; unfold withB; rw [Int.toNat_natCast, h]
abbrev setF (f : DFs) (a : Int) (L : List UInt8) (ws : List Int) : DFs := ⟨withB f.inodes a L.length ws, setD (dropAll f a) ws L ws.length⟩
abbrev pickB (f : DFs) (L : List UInt8) (busy : List Int) : RInts := pickOf f.inodes busy (((L.length : Int) + 7) / 8)
theorem pick_in {xs : List DInode} {busy : List Int} {n : Int} (h : (pickOf xs busy n).code = 0) : (∀ b, b ∈ (pickOf xs busy n).list → 0 ≤ b ∧ b ≤ 19) ∧ ((pickOf xs busy n).list.length : Int) = n := by
  unfold pickOf at h ⊢
  split
  · rename_i h1
    rw [if_pos h1] at h
    split
    · rename_i h2; rw [if_pos h2] at h; exact absurd h (by decide)
    · rename_i h2
      refine ⟨fun b hb => ?_, by simp only [List.length_take]; omega⟩
      have := (placesTo_mem.1 (List.mem_of_mem_take hb)).1
      omega
  · rename_i h1; rw [if_neg h1] at h; exact absurd h (by decide)
noncomputable abbrev wcode (f : DFs) (a : Int) (busy : List Int) : Int := if bytesCode f a = 0 then busyFault busy else bytesCode f a
theorem wcode_f {f : DFs} {a : Int} {busy : List Int} (h : ¬ bytesCode f a = 0) : wcode f a busy = bytesCode f a := if_neg h
theorem wcode_b {f : DFs} {a : Int} {busy : List Int} (h : bytesCode f a = 0) : wcode f a busy = busyFault busy := if_pos h
theorem wOk {f : DFs} {a : Int} {busy : List Int} (h : wcode f a busy = 0) : bytesCode f a = 0 ∧ busyFault busy = 0 := by
  unfold wcode at h
  split at h
  · rename_i h1; exact ⟨h1, h⟩
  · contradiction
def setG (f : DFs) (a : Int) (L : List UInt8) (busy : List Int) : RFs := if (L.length : Int) ≤ 32 then if (pickB f L busy).code = 0 then ⟨0, setF f a L (pickB f L busy).list⟩ else ⟨(pickB f L busy).code, ⟨[], []⟩⟩ else ⟨2, ⟨[], []⟩⟩
theorem setG_2 {f : DFs} {a : Int} {L : List UInt8} {busy : List Int} (h : ¬ (L.length : Int) ≤ 32) : setG f a L busy = ⟨2, ⟨[], []⟩⟩ := if_neg h
theorem setG_p {f : DFs} {a : Int} {L : List UInt8} {busy : List Int} (h : (L.length : Int) ≤ 32) (h2 : ¬ (pickB f L busy).code = 0) : setG f a L busy = ⟨(pickB f L busy).code, ⟨[], []⟩⟩ := by unfold setG; rw [if_pos h, if_neg h2]
theorem setG_0 {f : DFs} {a : Int} {L : List UInt8} {busy : List Int} (h : (L.length : Int) ≤ 32) (h2 : (pickB f L busy).code = 0) : setG f a L busy = ⟨0, setF f a L (pickB f L busy).list⟩ := by unfold setG; rw [if_pos h, if_pos h2]
def padZ (L : List UInt8) (n : Int) : List UInt8 := L ++ List.replicate (n.toNat - L.length) 0
theorem padz_0 (L : List UInt8) : L = L ++ List.replicate 0 0 := by simp
theorem padz_s {L : List UInt8} {k : Nat} : (L ++ List.replicate k (0 : UInt8)) ++ [0] = L ++ List.replicate (k + 1) 0 := by rw [List.append_assoc, ← List.replicate_succ']
theorem padz_len {L : List UInt8} {k : Nat} : (L ++ List.replicate k (0 : UInt8)).length = L.length + k := by simp
theorem padz_all {L : List UInt8} {n : Int} {k : Nat} (h1 : k ≤ n.toNat - L.length) (h2 : ¬ ((L ++ List.replicate k (0 : UInt8)).length : Int) < n) : L ++ List.replicate k 0 = padZ L n := by
  rw [padz_len] at h2
  unfold padZ
  rw [show k = n.toNat - L.length by omega]
theorem padZ_len {L : List UInt8} {n : Int} : (padZ L n).length = L.length + (n.toNat - L.length) := by simp [padZ]
noncomputable def cutR (f : DFs) (a n : Int) (busy : List Int) : RFs := if wcode f a busy = 0 then if 0 ≤ n ∧ n ≤ 32 then setG f a ((padZ (fileB f a) n).take n.toNat) busy else ⟨3, ⟨[], []⟩⟩ else ⟨wcode f a busy, ⟨[], []⟩⟩
theorem cutR_f {f : DFs} {a n : Int} {busy : List Int} (h : ¬ wcode f a busy = 0) : cutR f a n busy = ⟨wcode f a busy, ⟨[], []⟩⟩ := if_neg h
theorem cutR_3 {f : DFs} {a n : Int} {busy : List Int} (h : wcode f a busy = 0) (h2 : ¬ (0 ≤ n ∧ n ≤ 32)) : cutR f a n busy = ⟨3, ⟨[], []⟩⟩ := by unfold cutR; rw [if_pos h, if_neg h2]
theorem cutR_0 {f : DFs} {a n : Int} {busy : List Int} (h : wcode f a busy = 0) (h2 : 0 ≤ n ∧ n ≤ 32) : cutR f a n busy = setG f a ((padZ (fileB f a) n).take n.toNat) busy := by unfold cutR; rw [if_pos h, if_pos h2]
def putB (L : List UInt8) (i : Nat) (ys : List UInt8) (q : Nat) : List UInt8 := L.take i ++ ys.take q ++ L.drop (i + q)
theorem putB_0 (L : List UInt8) (i : Nat) (ys : List UInt8) : L = putB L i ys 0 := by simp [putB]
theorem putB_len {L : List UInt8} {i q : Nat} {ys : List UInt8} (h : i + q ≤ L.length) (h2 : q ≤ ys.length) : (putB L i ys q).length = L.length := by
  simp only [putB, List.length_append, List.length_take, List.length_drop]; omega
theorem putB_s {L : List UInt8} {i q : Nat} {ys : List UInt8} {y : UInt8} (h : ys[q]? = some y) (hl : i + q < L.length) : (putB L i ys q).set (i + q) y = putB L i ys (q + 1) := by
  have hq := (List.getElem?_eq_some_iff.1 h).1
  unfold putB
  have h1 : (L.take i ++ ys.take q).length = i + q := by rw [List.length_append, List.length_take, List.length_take]; omega
  rw [List.set_append_right _ _ (by omega), h1, Nat.sub_self, List.drop_eq_getElem_cons hl, List.set_cons_zero, ← take_snoc h]
  simp [List.append_assoc, Nat.add_assoc]
theorem putB_all {L : List UInt8} {i q : Nat} {ys : List UInt8} (h : ys.length ≤ q) (h2 : q ≤ ys.length) : putB L i ys q = putB L i ys ys.length := by rw [show q = ys.length by omega]
abbrev wroteB (f : DFs) (a i : Int) (ys : List UInt8) : List UInt8 := putB (padZ (fileB f a) (i + ys.length)) i.toNat ys ys.length
noncomputable def writeR (f : DFs) (a i : Int) (ys : List UInt8) (busy : List Int) : RFs :=
  if wcode f a busy = 0 then if 0 ≤ i ∧ i ≤ 1000 then if 32 < i + ys.length then ⟨2, ⟨[], []⟩⟩ else if (ys.length : Int) = 0 then ⟨0, f⟩ else setG f a (wroteB f a i ys) busy else ⟨3, ⟨[], []⟩⟩ else ⟨wcode f a busy, ⟨[], []⟩⟩
theorem writeR_f {f : DFs} {a i : Int} {ys : List UInt8} {busy : List Int} (h : ¬ wcode f a busy = 0) : writeR f a i ys busy = ⟨wcode f a busy, ⟨[], []⟩⟩ := if_neg h
theorem writeR_3 {f : DFs} {a i : Int} {ys : List UInt8} {busy : List Int} (h : wcode f a busy = 0) (h2 : ¬ (0 ≤ i ∧ i ≤ 1000)) : writeR f a i ys busy = ⟨3, ⟨[], []⟩⟩ := by unfold writeR; rw [if_pos h, if_neg h2]
theorem writeR_2 {f : DFs} {a i : Int} {ys : List UInt8} {busy : List Int} (h : wcode f a busy = 0) (h2 : 0 ≤ i ∧ i ≤ 1000) (h3 : 32 < i + ys.length) : writeR f a i ys busy = ⟨2, ⟨[], []⟩⟩ := by unfold writeR; rw [if_pos h, if_pos h2, if_pos h3]
theorem writeR_e {f : DFs} {a i : Int} {ys : List UInt8} {busy : List Int} (h : wcode f a busy = 0) (h2 : 0 ≤ i ∧ i ≤ 1000) (h3 : ¬ 32 < i + ys.length) (h4 : (ys.length : Int) = 0) : writeR f a i ys busy = ⟨0, f⟩ := by unfold writeR; rw [if_pos h, if_pos h2, if_neg h3, if_pos h4]
theorem writeR_0 {f : DFs} {a i : Int} {ys : List UInt8} {busy : List Int} (h : wcode f a busy = 0) (h2 : 0 ≤ i ∧ i ≤ 1000) (h3 : ¬ 32 < i + ys.length) (h4 : ¬ (ys.length : Int) = 0) : writeR f a i ys busy = setG f a (wroteB f a i ys) busy := by unfold writeR; rw [if_pos h, if_pos h2, if_neg h3, if_neg h4]
theorem share_eq {L : List UInt8} {q : Nat} : subL L (q * 8) (Int.toNat (minI (L.length : Int) (((q + 1) * 8 : Nat) : Int))) = shareB L q := by
  unfold shareB
  have := minI_spec (L.length : Int) (((q + 1) * 8 : Nat) : Int)
  rw [show Int.toNat (minI (L.length : Int) (((q + 1) * 8 : Nat) : Int)) = min ((q + 1) * 8) L.length by omega]
theorem share_eq' {L : List UInt8} {q : Nat} : subL L (q * 8) (Int.toNat (minI (((q + 1) * 8 : Nat) : Int) (L.length : Int))) = shareB L q := by
  rw [minI_comm]; exact share_eq
theorem ask_0 {xs : List DInode} {b : List Int} (h : inodesFault xs = 0) (h2 : busyFault b = 0) : askFault xs b = 0 := by unfold askFault; rw [if_pos h, h2]
end Go.Proofs.YtmejbfmhaoilmaaGreat
/- What is proved: copy into a part of a slice of one's own. No condition. -/
namespace Go.Proofs.YtmejbfmhaoilmaaGreat
open Go Go.RowKit
set_option linter.unusedVariables false
set_option linter.unusedSimpArgs false
section
variable {P : Program} {T : Slots} {o : Oper} {w0 : World} {S0 : Bs} {l l' : List Asn}
end
end Go.Proofs.YtmejbfmhaoilmaaGreat
/- What is proved: paths: cut at a byte, joined again, in plain Lean. No condition. -/
namespace Go.Proofs.YtmejbfmhaoilmaaGreat
open Go Go.RowKit
set_option linter.unusedVariables false
set_option linter.unusedSimpArgs false
abbrev sl1 : ByteArray := ⟨#[47]⟩
def cutL : List UInt8 → List (List UInt8)
  | [] => [[]]
  | b :: l => if b = 47 then [] :: cutL l else match cutL l with | [] => [[b]] | p :: ps => (b :: p) :: ps
theorem cutL_no : ∀ {l : List UInt8}, (∀ b, b ∈ l → b ≠ 47) → cutL l = [l]
  | [], _ => rfl
  | b :: l, h => by
    unfold cutL
    rw [if_neg (h b (by simp)), cutL_no (fun c hc => h c (by simp [hc]))]
theorem cutL_at : ∀ {n : Nat} {l : List UInt8}, (∀ (j : Nat) b, j < n → l[j]? = some b → b ≠ 47) → l[n]? = some 47 → cutL l = l.take n :: cutL (l.drop (n + 1))
  | 0, [], _, h => by simp at h
  | 0, b :: l, _, h => by
    have : b = 47 := by simpa using h
    subst this
    rw [cutL, if_pos rfl]
    simp
  | n + 1, [], _, h => by simp at h
  | n + 1, b :: l, ha, h => by
    have ih := cutL_at (n := n) (l := l) (fun j c hj hc => ha (j + 1) c (by omega) (by simpa using hc)) (by simpa using h)
    have h0 : b ≠ 47 := ha 0 b (by omega) (by simp)
    rw [cutL, if_neg h0, ih]
    simp
def cutB (s : ByteArray) : List ByteArray := (cutL s.data.toList).map bstr
theorem bstr_data (s : ByteArray) : bstr s.data.toList = s := by cases s; simp [bstr]
def CI (l : List UInt8) (m k : Nat) (out : List ByteArray) : Prop :=
  m ≤ k ∧ (∀ (j : Nat) b, m ≤ j → j < k → l[j]? = some b → b ≠ 47) ∧ (cutL l).map bstr = out ++ (cutL (l.drop m)).map bstr
theorem CI_0 {l : List UInt8} : CI l 0 0 [] := ⟨Nat.le_refl _, fun j b h1 h2 => absurd h2 (by omega), rfl⟩
theorem CI_n {l : List UInt8} {m k : Nat} {out : List ByteArray} {b : UInt8} (h : CI l m k out) (hb : l[k]? = some b) (hn : b ≠ 47) : CI l m (k + 1) out :=
  ⟨by have := h.1; omega, fun j c h1 h2 hc => by
    rcases Nat.lt_succ_iff_lt_or_eq.1 h2 with h3 | rfl
    · exact h.2.1 j c h1 h3 hc
    · rw [hb] at hc; obtain rfl := Option.some.inj hc; exact hn, h.2.2⟩
theorem CI_y {s : ByteArray} {m k : Nat} {out : List ByteArray} {b : UInt8} (h : CI s.data.toList m k out) (hb : s.data.toList[k]? = some b) (hn : b = 47) : CI s.data.toList (k + 1) (k + 1) (out ++ [s.extract m k]) := by
  subst hn
  obtain ⟨h1, h2, h3⟩ := h
  refine ⟨Nat.le_refl _, fun j c a b => absurd a (by omega), ?_⟩
  have hk : m + (k - m) = k := by omega
  have e := cutL_at (n := k - m) (l := s.data.toList.drop m) (fun j c hj hc => h2 (m + j) c (by omega) (by omega) (by rw [List.getElem?_drop] at hc; exact hc)) (by rw [List.getElem?_drop, hk]; exact hb)
  rw [h3, e, List.drop_drop, List.map_cons, show m + (k - m + 1) = k + 1 by omega]
  have e2 : s.extract m k = bstr (List.take (k - m) (List.drop m s.data.toList)) := by
    rw [← bstr_data (s.extract m k), Lib.extract_data]
  rw [e2]
  simp
theorem CI_end {s : ByteArray} {m k : Nat} {out : List ByteArray} (h : CI s.data.toList m k out) (hk : k = s.size) : out ++ [s.extract m k] = cutB s := by
  subst hk
  obtain ⟨h1, h2, h3⟩ := h
  unfold cutB
  rw [h3, cutL_no (fun b hb => by
    obtain ⟨j, hj⟩ := List.mem_iff_getElem?.1 hb
    rw [List.getElem?_drop] at hj
    have := (List.getElem?_eq_some_iff.1 hj).1
    rw [str_len] at this
    exact h2 (m + j) b (by omega) (by omega) hj)]
  have e : List.take (s.size - m) (List.drop m s.data.toList) = List.drop m s.data.toList := List.take_of_length_le (by rw [List.length_drop, str_len]; omega)
  rw [← bstr_data (s.extract m s.size), Lib.extract_data, e]
  simp
def firstC : List ByteArray → Int
  | [] => 0
  | s :: l => if nameFault s = 0 then firstC l else nameFault s
theorem firstC_all : ∀ {xs : List ByteArray}, (∀ (j : Nat) s, xs[j]? = some s → nameFault s = 0) → firstC xs = 0
  | [], _ => rfl
  | s :: l, h => by
    unfold firstC
    rw [if_pos (h 0 s (by simp))]
    exact firstC_all (fun j t ht => h (j + 1) t (by simpa using ht))
theorem firstC_at : ∀ {xs : List ByteArray} {k : Nat} {s : ByteArray}, (∀ (j : Nat) s, j < k → xs[j]? = some s → nameFault s = 0) → xs[k]? = some s → ¬ nameFault s = 0 → firstC xs = nameFault s
  | [], _, _, _, h, _ => by simp at h
  | t :: l, 0, s, _, h, hn => by
    have : t = s := by simpa using h
    subst this
    unfold firstC
    rw [if_neg hn]
  | t :: l, k + 1, s, ha, h, hn => by
    unfold firstC
    rw [if_pos (ha 0 t (by omega) (by simp))]
    exact firstC_at (k := k) (fun j u hj hu => ha (j + 1) u (by omega) (by simpa using hu)) (by simpa using h) hn
theorem firstC_0 : ∀ {xs : List ByteArray}, firstC xs = 0 → ∀ s, s ∈ xs → nameFault s = 0
  | [], _, _, h => by simp at h
  | t :: l, h0, s, h => by
    unfold firstC at h0
    split at h0
    · rename_i ht
      rcases List.mem_cons.1 h with rfl | h
      · exact ht
      · exact firstC_0 h0 s h
    · rename_i ht; exact absurd h0 ht
def namesC (xs : List ByteArray) : Int := if 6 < xs.length then 2 else firstC xs
theorem namesC_2 {xs : List ByteArray} (h : 6 < xs.length) : namesC xs = 2 := if_pos h
theorem namesC_n {xs : List ByteArray} (h : ¬ 6 < xs.length) {k : Nat} {s : ByteArray} (ha : ∀ (j : Nat) s, j < k → xs[j]? = some s → nameFault s = 0) (hs : xs[k]? = some s) (hn : ¬ nameFault s = 0) : namesC xs = nameFault s := by rw [namesC, if_neg h, firstC_at ha hs hn]
theorem namesC_0 {xs : List ByteArray} (h : ¬ 6 < xs.length) {k : Nat} (ha : ∀ (j : Nat) s, j < k → xs[j]? = some s → nameFault s = 0) (hk : xs.length ≤ k) : namesC xs = 0 := by
  rw [namesC, if_neg h]
  exact firstC_all fun j s hs => ha j s (Nat.lt_of_lt_of_le (List.getElem?_eq_some_iff.1 hs).1 hk) hs
theorem namesOk {xs : List ByteArray} (h : namesC xs = 0) : xs.length ≤ 6 ∧ ∀ s, s ∈ xs → nameFault s = 0 := by
  unfold namesC at h
  split at h
  · exact absurd h (by decide)
  · exact ⟨by omega, firstC_0 h⟩
abbrev tailB (s : ByteArray) : ByteArray := ByteArray.extract s 1 s.size
def badP (s : ByteArray) : Prop := s.data.toList[0]? ≠ some 47 ∨ s.data.toList[s.size - 1]? = some 47
instance (s : ByteArray) : Decidable (badP s) := by unfold badP; infer_instance
def splitC (s : ByteArray) : Int := if 30 < s.size then 2 else if s = sl1 then 0 else if badP s then 5 else namesC (cutB (tailB s))
def splitN (s : ByteArray) : List ByteArray := if splitC s = 0 ∧ s ≠ sl1 then cutB (tailB s) else []
theorem split_2 {s : ByteArray} (h : 30 < s.size) : splitC s = 2 ∧ splitN s = [] := by
  have : splitC s = 2 := if_pos h
  exact ⟨this, by rw [splitN, if_neg]; rw [this]; simp⟩
theorem split_r {s : ByteArray} (h : ¬ 30 < s.size) (h2 : s = sl1) : splitC s = 0 ∧ splitN s = [] := by
  have : splitC s = 0 := by rw [splitC, if_neg h, if_pos h2]
  exact ⟨this, by rw [splitN, if_neg]; simp [h2]⟩
theorem split_5 {s : ByteArray} (h : ¬ 30 < s.size) (h2 : ¬ s = sl1) (h3 : badP s) : splitC s = 5 ∧ splitN s = [] := by
  have : splitC s = 5 := by rw [splitC, if_neg h, if_neg h2, if_pos h3]
  exact ⟨this, by rw [splitN, if_neg]; rw [this]; simp⟩
theorem split_c {s : ByteArray} (h : ¬ 30 < s.size) (h2 : ¬ s = sl1) (h3 : ¬ badP s) (h4 : ¬ namesC (cutB (tailB s)) = 0) : splitC s = namesC (cutB (tailB s)) ∧ splitN s = [] := by
  have : splitC s = namesC (cutB (tailB s)) := by rw [splitC, if_neg h, if_neg h2, if_neg h3]
  exact ⟨this, by rw [splitN, if_neg]; rw [this]; simp [h4]⟩
theorem split_0 {s : ByteArray} (h : ¬ 30 < s.size) (h2 : ¬ s = sl1) (h3 : ¬ badP s) (h4 : namesC (cutB (tailB s)) = 0) : splitC s = 0 ∧ splitN s = cutB (tailB s) := by
  have : splitC s = 0 := by rw [splitC, if_neg h, if_neg h2, if_neg h3, h4]
  exact ⟨this, by rw [splitN, if_pos ⟨this, h2⟩]⟩
theorem splitN_ok (s : ByteArray) : (splitN s).length ≤ 6 ∧ ∀ x, x ∈ splitN s → nameFault x = 0 := by
  by_cases h : splitC s = 0 ∧ s ≠ sl1
  · obtain ⟨h1, h2⟩ := h
    have h3 : splitN s = cutB (tailB s) := by rw [splitN, if_pos ⟨h1, h2⟩]
    unfold splitC at h1
    split at h1
    · exact absurd h1 (by decide)
    · split at h1
      · exact absurd h1 (by decide)
      · rw [h3]; exact namesOk h1
  · rw [splitN, if_neg h]; simp
def joinL (xs : List ByteArray) : List UInt8 := (xs.map (fun s => 47 :: s.data.toList)).flatten
def joinB (xs : List ByteArray) : ByteArray := if xs = [] then sl1 else bstr (joinL xs)
theorem joinL_len {xs : List ByteArray} (h : ∀ s, s ∈ xs → nameFault s = 0) : (joinL xs).length ≤ 5 * xs.length := by
  induction xs with
  | nil => simp [joinL]
  | cons x r ih =>
    have h1 := (name_4 (h x (by simp))).1
    have h2 := ih (fun s hs => h s (by simp [hs]))
    have h3 := str_len x
    simp only [joinL, List.map_cons, List.flatten_cons, List.length_append, List.length_cons] at h2 ⊢
    omega
def jnB (xs : List ByteArray) : ByteArray := bstr (joinL xs)
theorem jnB_s {xs : List ByteArray} {k : Nat} {x : ByteArray} (h : xs[k]? = some x) : jnB (xs.take k) ++ sl1 ++ x = jnB (xs.take (k + 1)) := by
  rw [List.take_add_one, h]
  have e : ∀ a b : ByteArray, a = bstr b.data.toList → a = b := fun a b h => by rw [h, bstr_data]
  symm
  apply e
  unfold jnB
  congr 1
  simp [joinL, bstr]
theorem jnB_e {xs : List ByteArray} : (jnB xs = ⟨#[]⟩) ↔ xs = [] := by
  constructor
  · intro h
    cases xs with
    | nil => rfl
    | cons x r =>
      have := congrArg (fun b : ByteArray => b.data.toList) h
      simp [jnB, bstr, joinL] at this
  · rintro rfl; rfl
theorem joinB_e {xs : List ByteArray} (h : jnB xs = ⟨#[]⟩) : joinB xs = sl1 := if_pos (jnB_e.1 h)
theorem joinB_n {xs : List ByteArray} (h : ¬ jnB xs = ⟨#[]⟩) : joinB xs = jnB xs := if_neg (fun e => h (jnB_e.2 e))
theorem jnB_size {xs : List ByteArray} (h : ∀ s, s ∈ xs → nameFault s = 0) : (jnB xs).size ≤ 5 * xs.length := by
  have := joinL_len h
  simpa [jnB, bstr, ByteArray.size] using this
theorem joinB_size {xs : List ByteArray} (h : ∀ s, s ∈ xs → nameFault s = 0) : (joinB xs).size ≤ 5 * xs.length + 1 := by
  unfold joinB
  split
  · show (1 : Nat) ≤ _; omega
  · have := jnB_size h; unfold jnB at this; omega
theorem byte_47 {b : UInt8} : (b.toNat : Int) = 47 ↔ b = 47 := ⟨fun h => UInt8.toNat_inj.1 (show b.toNat = (47 : UInt8).toNat by have : (47 : UInt8).toNat = 47 := rfl; omega), fun h => by subst h; rfl⟩
theorem bad_e {s : ByteArray} (h : (s.size : Int) = 0) : badP s := .inl (by rw [List.getElem?_eq_none (by rw [str_len]; omega)]; simp)
theorem bad_f {s : ByteArray} {b : UInt8} (hb : s.data.toList[0]? = some b) (h : ¬ (b.toNat : Int) = 47) : badP s := .inl (by rw [hb]; intro e; exact h (byte_47.2 (Option.some.inj e)))
theorem bad_l {s : ByteArray} {b : UInt8} {j : Nat} (hb : s.data.toList[j]? = some b) (hj : j = s.size - 1) (h : (b.toNat : Int) = 47) : badP s := .inr (by rw [← hj, hb, byte_47.1 h])
theorem nbad {s : ByteArray} {b c : UInt8} {j : Nat} (hb : s.data.toList[0]? = some b) (h : (b.toNat : Int) = 47) (hc : s.data.toList[j]? = some c) (hj : j = s.size - 1) (hn : ¬ (c.toNat : Int) = 47) : ¬ badP s := by
  rintro (h1 | h1)
  · exact h1 (by rw [hb, byte_47.1 h])
  · rw [← hj, hc] at h1; exact hn (byte_47.2 (Option.some.inj h1))
theorem nbad2 {s : ByteArray} (h : s.data.toList[0]? = some 47) (h2 : ¬ s.data.toList[s.size - 1]? = some 47) : ¬ badP s := by
  rintro (h1 | h1)
  · exact h1 h
  · exact h2 h1
def lastC (s : ByteArray) : Int := if splitC s = 0 then if splitN s = [] then 4 else 0 else splitC s
def lastN (s : ByteArray) : List ByteArray := if lastC s = 0 then (splitN s).take ((splitN s).length - 1) else []
def lastT (s : ByteArray) : ByteArray := if lastC s = 0 then ((splitN s)[(splitN s).length - 1]?).getD ⟨#[]⟩ else ⟨#[]⟩
theorem last_c {s : ByteArray} (h : ¬ splitC s = 0) : lastC s = splitC s ∧ lastN s = [] ∧ lastT s = ⟨#[]⟩ := by
  have : lastC s = splitC s := if_neg h
  exact ⟨this, by rw [lastN, this, if_neg h], by rw [lastT, this, if_neg h]⟩
theorem last_4 {s : ByteArray} (h : splitC s = 0) (h2 : splitN s = []) : lastC s = 4 ∧ lastN s = [] ∧ lastT s = ⟨#[]⟩ := by
  have : lastC s = 4 := by rw [lastC, if_pos h, if_pos h2]
  exact ⟨this, by rw [lastN, this, if_neg (by decide)], by rw [lastT, this, if_neg (by decide)]⟩
theorem last_0 {s : ByteArray} (h : splitC s = 0) (h2 : ¬ splitN s = []) : lastC s = 0 ∧ lastN s = (splitN s).take ((splitN s).length - 1) ∧ ∀ (j : Nat) x, j = (splitN s).length - 1 → (splitN s)[j]? = some x → lastT s = x := by
  have : lastC s = 0 := by rw [lastC, if_pos h, if_neg h2]
  exact ⟨this, by rw [lastN, if_pos this], fun j x hj hx => by rw [lastT, if_pos this, ← hj, hx]; rfl⟩
theorem len_nil {α : Type} {xs : List α} : (xs.length : Int) = 0 ↔ xs = [] := by rw [← List.length_eq_zero_iff]; omega
theorem lastN_ok (s : ByteArray) : (lastN s).length ≤ 6 ∧ ∀ x, x ∈ lastN s → nameFault x = 0 := by
  have h := splitN_ok s
  unfold lastN
  split
  · exact ⟨by rw [List.length_take]; omega, fun x hx => h.2 x (List.mem_of_mem_take hx)⟩
  · simp
theorem lastT_size (s : ByteArray) : (lastT s).size ≤ 4 := by
  unfold lastT
  split
  · cases hx : (splitN s)[(splitN s).length - 1]? with
    | none => exact Nat.zero_le _
    | some x => exact (name_4 ((splitN_ok s).2 x (List.mem_of_getElem? hx))).1
  · exact Nat.zero_le _
theorem ext_size {s : ByteArray} {a b B : Nat} (h : s.size ≤ B) : (ByteArray.extract s a b).size ≤ B := by rw [ByteArray.size_extract]; omega
end Go.Proofs.YtmejbfmhaoilmaaGreat
/- What is proved: the library's contracts on strings, told of our kinds. No condition. -/
namespace Go.Proofs.YtmejbfmhaoilmaaGreat
open Go Go.RowKit
set_option linter.unusedVariables false
set_option linter.unusedSimpArgs false
def MaxL (g : Nat) (w : World) (F : Bs) : Prop := ∃ m : Int, PtrRo (kint .i64) w F ⟨g, 0, none⟩ m
theorem MaxL.tr {g : Nat} {w0 w : World} {S0 S1 : Bs} {lr : List Asn} (tr : Tr w0 S0 w S1 lr) (h : MaxL g w0 (FF w0 S0)) : MaxL g w (FF w S1) := h.imp fun _ h => tr.ctxP h
theorem MaxL.cell {g : Nat} {w : World} {F : Bs} (h : MaxL g w F) : ∃ m : Int, w.cell? ⟨g, 0, none⟩ = some (.int .i64 m) := by
  obtain ⟨m, ecs, hF, ⟨rfl, -⟩, hc⟩ := h
  exact ⟨m, by simpa [Addr.add] using hc 0 _ rfl⟩
theorem MaxL.of {g : Nat} {w : World} {F : Bs} (hF : F g) (h : ∃ m : Int, w.cell? ⟨g, 0, none⟩ = some (.int .i64 m)) : MaxL g w F := by
  obtain ⟨m, hm⟩ := h
  refine ⟨m, [.int .i64 m], hF, ⟨rfl, trivial⟩, fun i u hu => ?_⟩
  cases i with
  | zero => simp at hu; subst hu; simpa [Addr.add] using hm
  | succ i => simp at hu
end Go.Proofs.YtmejbfmhaoilmaaGreat
/- What is proved: a name put into a directory, in plain Lean. No condition. -/
namespace Go.Proofs.YtmejbfmhaoilmaaGreat
open Go Go.RowKit
set_option linter.unusedVariables false
set_option linter.unusedSimpArgs false
def insI (es : List DEnt) (s : ByteArray) : Nat := (es.takeWhile (fun x => sLt x.name s)).length
theorem insI_eq {s : ByteArray} : ∀ {es : List DEnt} {k : Nat}, (∀ (j : Nat) e, j < k → es[j]? = some e → sLt e.name s = true) → k ≤ es.length → (k = es.length ∨ ∃ e, es[k]? = some e ∧ sLt e.name s = false) → insI es s = k
  | [], k, _, h, _ => by simp at h; subst h; rfl
  | e :: es, 0, _, _, h => by
      obtain h | ⟨y, hy, hn⟩ := h
      · simp at h
      · simp at hy; subst hy; simp [insI, hn]
  | e :: es, k + 1, ha, hk, h => by
      have h0 := ha 0 e (by omega) (by simp)
      have ih := insI_eq (s := s) (es := es) (k := k) (fun j e hj he => ha (j + 1) e (by omega) (by simpa using he)) (by simpa using hk) (h.elim (fun h => .inl (by simpa using h)) (fun ⟨e, he, hn⟩ => .inr ⟨e, by simpa using he, hn⟩))
      unfold insI at ih ⊢
      simp [List.takeWhile_cons, h0, ih]
abbrev putE (es : List DEnt) (n : DEnt) : List DEnt := es.take (insI es n.name) ++ [n] ++ es.drop (insI es n.name)
theorem putE_eq {es : List DEnt} {n : DEnt} {k : Nat} (h : insI es n.name = k) : es.take k ++ [n] ++ es.drop k = putE es n := by subst h; rfl
def addC (f : DFs) (a : Int) (s : ByteArray) (b : Int) : Int :=
  if 0 ≤ lookI (entsAt f.inodes a) s then 7
  else if ¬ (placeIn f.inodes.length b ∧ kindAt f.inodes b ≠ 0) then 4
  else if 6 ≤ (entsAt f.inodes a).length ∨ (kindAt f.inodes b = 1 ∧ 60 ≤ linksAt f.inodes b) then 2 else 0
def addX (f : DFs) (a : Int) (s : ByteArray) (b : Int) : DFs :=
  if kindAt f.inodes b = 1 then ⟨withL (withE f.inodes a (putE (entsAt f.inodes a) ⟨s, b⟩)) b (linksAt f.inodes b + 1), f.data⟩ else takeF f a (putE (entsAt f.inodes a) ⟨s, b⟩)
def addF (f : DFs) (a : Int) (s : ByteArray) (b : Int) : DFs := if addC f a s b = 0 then addX f a s b else f
theorem addC_7 {f : DFs} {a b : Int} {s : ByteArray} (h : 0 ≤ lookI (entsAt f.inodes a) s) : addC f a s b = 7 := if_pos h
theorem addC_4 {f : DFs} {a b : Int} {s : ByteArray} (h : ¬ 0 ≤ lookI (entsAt f.inodes a) s) (h2 : ¬ (placeIn f.inodes.length b ∧ kindAt f.inodes b ≠ 0)) : addC f a s b = 4 := by unfold addC; rw [if_neg h, if_pos h2]
theorem addC_2 {f : DFs} {a b : Int} {s : ByteArray} (h : ¬ 0 ≤ lookI (entsAt f.inodes a) s) (h2 : placeIn f.inodes.length b ∧ kindAt f.inodes b ≠ 0) (h3 : 6 ≤ (entsAt f.inodes a).length ∨ (kindAt f.inodes b = 1 ∧ 60 ≤ linksAt f.inodes b)) : addC f a s b = 2 := by unfold addC; rw [if_neg h, if_neg (by intro h4; exact h4 h2), if_pos h3]
theorem addC_0 {f : DFs} {a b : Int} {s : ByteArray} (h : ¬ 0 ≤ lookI (entsAt f.inodes a) s) (h2 : placeIn f.inodes.length b ∧ kindAt f.inodes b ≠ 0) (h3 : ¬ (6 ≤ (entsAt f.inodes a).length ∨ (kindAt f.inodes b = 1 ∧ 60 ≤ linksAt f.inodes b))) : addC f a s b = 0 := by unfold addC; rw [if_neg h, if_neg (by intro h4; exact h4 h2), if_neg h3]
theorem addF_n {f : DFs} {a b : Int} {s : ByteArray} (h : ¬ addC f a s b = 0) : addF f a s b = f := if_neg h
theorem addF_f {f : DFs} {a b : Int} {s : ByteArray} (h : addC f a s b = 0) (h2 : kindAt f.inodes b = 1) : addF f a s b = ⟨withL (withE f.inodes a (putE (entsAt f.inodes a) ⟨s, b⟩)) b (linksAt f.inodes b + 1), f.data⟩ := by unfold addF; rw [if_pos h, addX, if_pos h2]
theorem addF_d {f : DFs} {a b : Int} {s : ByteArray} (h : addC f a s b = 0) (h2 : ¬ kindAt f.inodes b = 1) : addF f a s b = takeF f a (putE (entsAt f.inodes a) ⟨s, b⟩) := by unfold addF; rw [if_pos h, addX, if_neg h2]
theorem look_or {f : DFs} {a : Int} {s : ByteArray} {es : List DEnt} (ht : treeFault f = 0) (e : entsAt f.inodes a = es) : (0 ≤ idxF (nameP s) es ∧ 0 ≤ lookI (entsAt f.inodes a) s) ∨ (idxF (nameP s) es < 0 ∧ lookI (entsAt f.inodes a) s < 0) := by
  subst e
  by_cases h : idxF (nameP s) (entsAt f.inodes a) < 0
  · exact .inr ⟨h, by rw [look_none h]; decide⟩
  · obtain ⟨ix, hix, hil, -⟩ := idxF_at (show ¬ idxF (nameP s) (entsAt f.inodes a) = -1 by omega)
    exact .inl ⟨by omega, by rw [look_ino hix]; exact (ino_place ht hil).1⟩
end Go.Proofs.YtmejbfmhaoilmaaGreat
/- What is proved: where paths lead, in plain Lean. No condition. -/
namespace Go.Proofs.YtmejbfmhaoilmaaGreat
open Go Go.RowKit
set_option linter.unusedVariables false
set_option linter.unusedSimpArgs false
def wkC (xs : List DInode) : Int → List ByteArray → Int × Int
  | a, [] => (a, 0)
  | a, n :: ns => if kindAt xs a = 2 then if lookI (entsAt xs a) n < 0 then (0, 4) else wkC xs (lookI (entsAt xs a) n) ns else (0, 9)
theorem wk_9 {xs : List DInode} {a : Int} {ns : List ByteArray} {k : Nat} {n : ByteArray} (h : ns[k]? = some n) (h2 : ¬ kindAt xs a = 2) : wkC xs a (ns.drop k) = (0, 9) := by
  rw [List.drop_eq_getElem?_toList_append, h]
  show wkC xs a (n :: ns.drop (k + 1)) = _
  rw [wkC, if_neg h2]
theorem wk_4 {xs : List DInode} {a : Int} {ns : List ByteArray} {k : Nat} {n : ByteArray} (h : ns[k]? = some n) (h2 : kindAt xs a = 2) (h3 : lookI (entsAt xs a) n < 0) : wkC xs a (ns.drop k) = (0, 4) := by
  rw [List.drop_eq_getElem?_toList_append, h]
  show wkC xs a (n :: ns.drop (k + 1)) = _
  rw [wkC, if_pos h2, if_pos h3]
theorem wk_s {xs : List DInode} {a : Int} {ns : List ByteArray} {k : Nat} {n : ByteArray} (h : ns[k]? = some n) (h2 : kindAt xs a = 2) (h3 : ¬ lookI (entsAt xs a) n < 0) : wkC xs a (ns.drop k) = wkC xs (lookI (entsAt xs a) n) (ns.drop (k + 1)) := by
  rw [List.drop_eq_getElem?_toList_append, h]
  show wkC xs a (n :: ns.drop (k + 1)) = _
  rw [wkC, if_pos h2, if_neg h3]
theorem wk_end {xs : List DInode} {a : Int} {ns : List ByteArray} {k : Nat} (h : ns.length ≤ k) : wkC xs a (ns.drop k) = (a, 0) := by rw [List.drop_eq_nil_of_le h]; rfl
theorem wk_place {f : DFs} (ht : treeFault f = 0) : ∀ (ns : List ByteArray) (a : Int), placeIn f.inodes.length a → placeIn f.inodes.length (wkC f.inodes a ns).1
  | [], a, h => h
  | n :: ns, a, h => by
    have h0 : placeIn f.inodes.length 0 := ⟨Int.le_refl _, by have := (rootOk (treeOk ht).1).2.1; omega⟩
    unfold wkC
    split
    · split
      · exact h0
      · rename_i h3; exact wk_place ht ns _ (look_place ht h3)
    · exact h0
theorem place_0 {f : DFs} (ht : treeFault f = 0) : placeIn f.inodes.length 0 := ⟨Int.le_refl _, by have := (rootOk (treeOk ht).1).2.1; omega⟩
def walkP (f : DFs) (s : ByteArray) : Int × Int := if splitC s = 0 then wkC f.inodes 0 (splitN s) else (0, splitC s)
theorem walkP_c {f : DFs} {s : ByteArray} (h : ¬ splitC s = 0) : walkP f s = (0, splitC s) := if_neg h
theorem walkP_0 {f : DFs} {s : ByteArray} (h : splitC s = 0) : walkP f s = wkC f.inodes 0 (splitN s) := if_pos h
theorem walkP_place {f : DFs} (ht : treeFault f = 0) (s : ByteArray) : placeIn f.inodes.length (walkP f s).1 := by
  unfold walkP
  split
  · exact wk_place ht _ _ (place_0 ht)
  · exact place_0 ht
def parP (f : DFs) (s : ByteArray) : Int × ByteArray × Int :=
  if lastC s = 0 then if (wkC f.inodes 0 (lastN s)).2 = 0 then if kindAt f.inodes (wkC f.inodes 0 (lastN s)).1 = 2 then ((wkC f.inodes 0 (lastN s)).1, lastT s, 0) else (0, ⟨#[]⟩, 9) else (0, ⟨#[]⟩, (wkC f.inodes 0 (lastN s)).2) else (0, ⟨#[]⟩, lastC s)
theorem parP_c {f : DFs} {s : ByteArray} (h : ¬ lastC s = 0) : parP f s = (0, ⟨#[]⟩, lastC s) := if_neg h
theorem parP_w {f : DFs} {s : ByteArray} (h : lastC s = 0) (h2 : ¬ (wkC f.inodes 0 (lastN s)).2 = 0) : parP f s = (0, ⟨#[]⟩, (wkC f.inodes 0 (lastN s)).2) := by rw [parP, if_pos h, if_neg h2]
theorem parP_9 {f : DFs} {s : ByteArray} (h : lastC s = 0) (h2 : (wkC f.inodes 0 (lastN s)).2 = 0) (h3 : ¬ kindAt f.inodes (wkC f.inodes 0 (lastN s)).1 = 2) : parP f s = (0, ⟨#[]⟩, 9) := by rw [parP, if_pos h, if_pos h2, if_neg h3]
theorem parP_0 {f : DFs} {s : ByteArray} (h : lastC s = 0) (h2 : (wkC f.inodes 0 (lastN s)).2 = 0) (h3 : kindAt f.inodes (wkC f.inodes 0 (lastN s)).1 = 2) : parP f s = ((wkC f.inodes 0 (lastN s)).1, lastT s, 0) := by rw [parP, if_pos h, if_pos h2, if_pos h3]
theorem parP_size {f : DFs} {s : ByteArray} : (parP f s).2.1.size ≤ 4 := by
  have := lastT_size s
  by_cases h1 : lastC s = 0
  · by_cases h2 : (wkC f.inodes 0 (lastN s)).2 = 0
    · by_cases h3 : kindAt f.inodes (wkC f.inodes 0 (lastN s)).1 = 2
      · rw [parP_0 h1 h2 h3]; exact this
      · rw [parP_9 h1 h2 h3]; exact Nat.zero_le _
    · rw [parP_w h1 h2]; exact Nat.zero_le _
  · rw [parP_c h1]; exact Nat.zero_le _
def sizeAt (xs : List DInode) (a : Int) : Int := match xs[a.toNat]? with | some x => x.size | none => 0
theorem size_at {xs : List DInode} {a : Int} {j : Nat} {x : DInode} (hx : xs[j]? = some x) (h : a = (j : Int)) : sizeAt xs a = x.size := by
  subst h
  unfold sizeAt
  rw [Int.toNat_natCast, hx]
def statA (f : DFs) (a : Int) : RStat := if kindAt f.inodes a = 2 then ⟨0, a, kindAt f.inodes a, 1, ((entsAt f.inodes a).length : Int)⟩ else ⟨0, a, kindAt f.inodes a, linksAt f.inodes a, sizeAt f.inodes a⟩
theorem statA_d {f : DFs} {a : Int} (h : kindAt f.inodes a = 2) : statA f a = ⟨0, a, kindAt f.inodes a, 1, ((entsAt f.inodes a).length : Int)⟩ := if_pos h
theorem statA_f {f : DFs} {a : Int} (h : ¬ kindAt f.inodes a = 2) : statA f a = ⟨0, a, kindAt f.inodes a, linksAt f.inodes a, sizeAt f.inodes a⟩ := if_neg h
noncomputable def statR (f : DFs) (s : ByteArray) : RStat := if fsFault f = 0 then if (walkP f s).2 = 0 then statA f (walkP f s).1 else ⟨(walkP f s).2, 0, 0, 0, 0⟩ else ⟨fsFault f, 0, 0, 0, 0⟩
theorem statR_f {f : DFs} {s : ByteArray} (h : ¬ fsFault f = 0) : statR f s = ⟨fsFault f, 0, 0, 0, 0⟩ := if_neg h
theorem statR_c {f : DFs} {s : ByteArray} (h : fsFault f = 0) (h2 : ¬ (walkP f s).2 = 0) : statR f s = ⟨(walkP f s).2, 0, 0, 0, 0⟩ := by rw [statR, if_pos h, if_neg h2]
theorem statR_0 {f : DFs} {s : ByteArray} (h : fsFault f = 0) (h2 : (walkP f s).2 = 0) : statR f s = statA f (walkP f s).1 := by rw [statR, if_pos h, if_pos h2]
end Go.Proofs.YtmejbfmhaoilmaaGreat
/- What is proved: the answers of AddName. No condition. -/
namespace Go.Proofs.YtmejbfmhaoilmaaGreat
set_option linter.unusedVariables false
set_option linter.unusedSimpArgs false
end Go.Proofs.YtmejbfmhaoilmaaGreat
/- What is proved: what a drawn tree keeps through all calls: its places lie where they should; plain Lean. No condition. -/
namespace Go.Proofs.YtmejbfmhaoilmaaGreat
open Go Go.RowKit
set_option linter.unusedVariables false
set_option linter.unusedSimpArgs false
structure Jx (n : Nat) (x : DInode) : Prop where
  k : 0 ≤ x.kind ∧ x.kind ≤ 2
  l : 0 ≤ x.links ∧ x.links ≤ 60
  z : x.kind = 1 ∨ x.links = 0
  s : 0 ≤ x.size ∧ x.size ≤ 32
  b : ∀ b, b ∈ x.blocks → 0 ≤ b ∧ b ≤ 19
  bl : x.blocks.length ≤ 4
  e6 : x.ents.length ≤ 6
  e : ∀ e, e ∈ x.ents → (0 ≤ e.ino ∧ e.ino < (n : Int)) ∧ e.name.size ≤ 4
structure J0 (f : DFs) : Prop where
  n : 0 < f.inodes.length ∧ f.inodes.length ≤ 10
  d : f.data.length = 20
  x : ∀ x, x ∈ f.inodes → Jx f.inodes.length x
structure Jf (f : DFs) : Prop extends J0 f where
  o : ∀ x, x ∈ f.inodes → x.kind = 1 → 1 ≤ x.links
theorem Jx.up {n m : Nat} {x : DInode} (h : Jx n x) (hm : n ≤ m) : Jx m x := ⟨h.k, h.l, h.z, h.s, h.b, h.bl, h.e6, fun e he => by have := h.e e he; exact ⟨by omega, this.2⟩⟩
theorem jx_zero (n : Nat) : Jx n ⟨0, 0, 0, [], []⟩ := ⟨by decide, by decide, .inr rfl, by decide, fun _ h => absurd h (by simp), by decide, by decide, fun _ h => absurd h (by simp)⟩
theorem jx_kind {n : Nat} {k : Int} (h : 0 ≤ k ∧ k ≤ 2) : Jx n ⟨k, 0, 0, [], []⟩ := ⟨h, by dsimp only; omega, .inr rfl, by dsimp only; omega, fun _ h => absurd h (by simp), by simp, by simp, fun _ h => absurd h (by simp)⟩
theorem J0.get {f : DFs} (h : J0 f) {j : Nat} {x : DInode} (hx : f.inodes[j]? = some x) : Jx f.inodes.length x := h.x x (List.mem_of_getElem? hx)
theorem j_new : Jf ⟨[⟨2, 0, 0, [], []⟩], List.replicate 20 []⟩ where
  n := by decide
  d := by simp
  x := fun x hx => by obtain rfl := List.mem_singleton.1 hx; exact jx_kind (by decide)
  o := fun x hx hk => by obtain rfl := List.mem_singleton.1 hx; exact absurd hk (by decide)
theorem mem_set {α : Type} {xs : List α} {j : Nat} {y z : α} (h : z ∈ xs.set j y) : z = y ∨ z ∈ xs := by
  obtain ⟨i, hi⟩ := List.mem_iff_getElem?.1 h
  rw [List.getElem?_set] at hi
  split at hi
  · split at hi
    · exact .inl (Option.some.inj hi).symm
    · cases hi
  · exact .inr (List.mem_of_getElem? hi)
theorem j0_set {xs : List DInode} {d : List (List UInt8)} {j : Nat} {y : DInode} (h : J0 ⟨xs, d⟩) (hy : Jx xs.length y) : J0 ⟨xs.set j y, d⟩ where
  n := by simpa using h.n
  d := h.d
  x := fun x hx => by
    show Jx (xs.set j y).length x
    rw [List.length_set]
    rcases mem_set hx with rfl | hx
    · exact hy
    · exact h.x x hx
theorem j_set {xs : List DInode} {d : List (List UInt8)} {j : Nat} {y : DInode} (h : Jf ⟨xs, d⟩) (hy : Jx xs.length y) (ho : y.kind = 1 → 1 ≤ y.links) : Jf ⟨xs.set j y, d⟩ where
  toJ0 := j0_set h.toJ0 hy
  o := fun x hx => by
    rcases mem_set hx with rfl | hx
    · exact ho
    · exact h.o x hx
theorem j_data {xs : List DInode} {d d' : List (List UInt8)} (h : Jf ⟨xs, d⟩) (hd : d'.length = 20) : Jf ⟨xs, d'⟩ := ⟨⟨h.n, hd, h.x⟩, h.o⟩
theorem j_grow {xs : List DInode} {d : List (List UInt8)} (h : Jf ⟨xs, d⟩) (hl : xs.length < 10) : Jf ⟨xs ++ [⟨0, 0, 0, [], []⟩], d⟩ where
  n := by simp; omega
  d := h.d
  x := fun x hx => by
    show Jx (xs ++ [_]).length x
    rw [List.length_append]
    rcases List.mem_append.1 hx with hx | hx
    · exact (h.x x hx).up (by show xs.length ≤ _; omega)
    · obtain rfl := List.mem_singleton.1 hx; exact jx_zero _
  o := fun x hx hk => by
    rcases List.mem_append.1 hx with hx | hx
    · exact h.o x hx hk
    · obtain rfl := List.mem_singleton.1 hx; exact absurd hk (by decide)
theorem jents {f : DFs} (h : J0 f) {a : Int} {i : Nat} {e : DEnt} (he : (entsAt f.inodes a)[i]? = some e) : placeIn f.inodes.length e.ino ∧ e.name.size ≤ 4 := by
  unfold entsAt at he
  cases hx : f.inodes[a.toNat]? with
  | none => rw [hx] at he; simp at he
  | some x =>
    rw [hx] at he
    have := (h.get hx).e e (List.mem_of_getElem? he)
    exact ⟨⟨this.1.1, by omega⟩, this.2⟩
theorem jents_len {f : DFs} (h : J0 f) (a : Int) : (entsAt f.inodes a).length ≤ 6 := by
  unfold entsAt
  cases hx : f.inodes[a.toNat]? with
  | none => simp
  | some x => exact (h.get hx).e6
theorem jino_place {f : DFs} (h : J0 f) {a : Int} {i : Nat} (hi : i < (entsAt f.inodes a).length) : placeIn f.inodes.length (inoAt (entsAt f.inodes a) i) := by
  obtain ⟨e, he⟩ := get_ex hi
  rw [inoAt_of he]
  exact (jents h he).1
theorem jlook_place {f : DFs} (h : J0 f) {a : Int} {s : ByteArray} (hk : ¬ lookI (entsAt f.inodes a) s < 0) : placeIn f.inodes.length (lookI (entsAt f.inodes a) s) := by
  obtain ⟨ix, hi⟩ := look_idx hk
  have hr := idxF_rng (nameP s) (entsAt f.inodes a)
  rw [look_ino hi]
  exact jino_place h (by omega)
theorem jlook_or {f : DFs} {a : Int} {s : ByteArray} {es : List DEnt} (h : J0 f) (e : entsAt f.inodes a = es) : (0 ≤ idxF (nameP s) es ∧ 0 ≤ lookI (entsAt f.inodes a) s) ∨ (idxF (nameP s) es < 0 ∧ lookI (entsAt f.inodes a) s < 0) := by
  subst e
  by_cases hk : idxF (nameP s) (entsAt f.inodes a) < 0
  · exact .inr ⟨hk, by rw [look_none hk]; decide⟩
  · obtain ⟨ix, hix, hil, -⟩ := idxF_at (show ¬ idxF (nameP s) (entsAt f.inodes a) = -1 by omega)
    exact .inl ⟨by omega, by rw [look_ino hix]; exact (jino_place h hil).1⟩
theorem jplace_0 {f : DFs} (h : J0 f) : placeIn f.inodes.length 0 := ⟨Int.le_refl _, by have := h.n.1; omega⟩
theorem jwk_place {f : DFs} (h : J0 f) : ∀ (ns : List ByteArray) (a : Int), placeIn f.inodes.length a → placeIn f.inodes.length (wkC f.inodes a ns).1
  | [], a, ha => ha
  | n :: ns, a, ha => by
    unfold wkC
    split
    · split
      · exact jplace_0 h
      · rename_i h3; exact jwk_place h ns _ (jlook_place h h3)
    · exact jplace_0 h
theorem jwalkP_place {f : DFs} (h : J0 f) (s : ByteArray) : placeIn f.inodes.length (walkP f s).1 := by
  unfold walkP
  split
  · exact jwk_place h _ _ (jplace_0 h)
  · exact jplace_0 h
theorem jparP_place {f : DFs} (h : J0 f) (s : ByteArray) : placeIn f.inodes.length (parP f s).1 := by
  by_cases h1 : lastC s = 0
  · by_cases h2 : (wkC f.inodes 0 (lastN s)).2 = 0
    · by_cases h3 : kindAt f.inodes (wkC f.inodes 0 (lastN s)).1 = 2
      · rw [parP_0 h1 h2 h3]; exact jwk_place h _ _ (jplace_0 h)
      · rw [parP_9 h1 h2 h3]; exact jplace_0 h
    · rw [parP_w h1 h2]; exact jplace_0 h
  · rw [parP_c h1]; exact jplace_0 h
theorem jG {f : DFs} (h : J0 f) : ∀ (j : Nat) (x : DInode), f.inodes[j]? = some x → ∀ (i : Nat) (e : DEnt), x.ents[i]? = some e → e.ino < (f.inodes.length : Int) := fun j x hx i e he => ((h.get hx).e e (List.mem_of_getElem? he)).1.2
theorem jents_ok {n : Nat} {x : DInode} (h : Jx n x) : ∀ (j : Nat) (e : DEnt), x.ents[j]? = some e → (0 ≤ e.ino ∧ e.ino < (n : Int)) ∧ e.name.size ≤ 4 := fun j e he => h.e e (List.mem_of_getElem? he)
theorem jlinks {f : DFs} (h : J0 f) (k : Int) : 0 ≤ linksAt f.inodes k ∧ linksAt f.inodes k ≤ 60 := by
  unfold linksAt
  cases hx : f.inodes[k.toNat]? with
  | none => simp
  | some x => exact (h.get hx).l
theorem jfile_links {f : DFs} (h : J0 f) {k : Int} (hk : kindAt f.inodes k = 1) : 0 ≤ linksAt f.inodes k ∧ linksAt f.inodes k ≤ 60 := jlinks h k
theorem jlinks_kind {f : DFs} (h : J0 f) {k : Int} (hk : ¬ kindAt f.inodes k = 1) : linksAt f.inodes k = 0 := by
  unfold kindAt at hk
  unfold linksAt
  cases hx : f.inodes[k.toNat]? with
  | none => rfl
  | some x =>
    rw [hx] at hk
    exact (h.get hx).z.resolve_left hk
theorem jkind {f : DFs} (h : J0 f) (k : Int) : 0 ≤ kindAt f.inodes k ∧ kindAt f.inodes k ≤ 2 := by
  unfold kindAt
  cases hx : f.inodes[k.toNat]? with
  | none => simp
  | some x => exact (h.get hx).k
theorem jsize {f : DFs} (h : J0 f) (k : Int) : 0 ≤ sizeAt f.inodes k ∧ sizeAt f.inodes k ≤ 32 := by
  unfold sizeAt
  cases hx : f.inodes[k.toNat]? with
  | none => simp
  | some x => exact (h.get hx).s
theorem jstat {f : DFs} (h : J0 f) (s : ByteArray) : (0 ≤ (statR f s).kind ∧ (statR f s).kind ≤ 2) ∧ (0 ≤ (statR f s).links ∧ (statR f s).links ≤ 60) ∧ (0 ≤ (statR f s).size ∧ (statR f s).size ≤ 32) := by
  unfold statR
  split
  · split
    · have h1 := jkind h (walkP f s).1
      have h2 := jlinks h (walkP f s).1
      have h3 := jsize h (walkP f s).1
      have h4 := jents_len h (walkP f s).1
      unfold statA
      split
      · dsimp only; omega
      · dsimp only; omega
    · dsimp only; omega
  · dsimp only; omega
theorem jblocks {f : DFs} (h : J0 f) (k : Int) : ∀ b, b ∈ blocksAt f.inodes k → 0 ≤ b ∧ b ≤ 19 := by
  unfold blocksAt
  cases hx : f.inodes[k.toNat]? with
  | none => intro b hb; cases hb
  | some x => exact (h.get hx).b
theorem sumF_le' {α : Type} {f : α → Nat} (h : ∀ x, f x ≤ 1) : ∀ xs : List α, sumF f xs ≤ xs.length
  | [] => Nat.zero_le _
  | x :: xs => by have h1 := h x; have h2 := sumF_le' h xs; simp only [sumF, List.length_cons]; omega
theorem jlinks_60 {f : DFs} (h : J0 f) (k : Int) : linksOf f.inodes k ≤ 60 := by
  have h1 : linksOf f.inodes k ≤ f.inodes.length * 6 := sumF_bnd fun x hx => Nat.le_trans (sumF_le' (fun e => by unfold cntE; split <;> omega) x.ents) (h.x x hx).e6
  have := h.n.2
  omega
theorem jless_pre {f : DFs} (h : Jf f) {k : Int} (hp : placeIn f.inodes.length k) : LessPre f k where
  p := hp
  d := h.d
  b := jblocks h.toJ0 k
  l := jlinks_60 h.toJ0 k
  k := fun hk => by
    refine ⟨?_, (jlinks h.toJ0 k).2⟩
    unfold kindAt at hk
    unfold linksAt
    cases hx : f.inodes[k.toNat]? with
    | none => rw [hx] at hk; exact absurd hk (by decide)
    | some x => rw [hx] at hk; exact h.o x (List.mem_of_getElem? hx) hk
theorem j0_withE {f : DFs} (h : J0 f) {a : Int} {es : List DEnt} (h6 : es.length ≤ 6) (he : ∀ e, e ∈ es → placeIn f.inodes.length e.ino ∧ e.name.size ≤ 4) : J0 (takeF f a es) := by
  show J0 ⟨withE f.inodes a es, f.data⟩
  unfold withE
  split
  · rename_i y hy
    have := h.get hy
    exact j0_set h ⟨this.k, this.l, this.z, this.s, this.b, this.bl, h6, fun e hm => ⟨⟨(he e hm).1.1, by have := (he e hm).1.2; omega⟩, (he e hm).2⟩⟩
  · exact h
theorem j_withE {f : DFs} (h : Jf f) {a : Int} {es : List DEnt} (h6 : es.length ≤ 6) (he : ∀ e, e ∈ es → placeIn f.inodes.length e.ino ∧ e.name.size ≤ 4) : Jf (takeF f a es) := by
  refine ⟨j0_withE h.toJ0 h6 he, ?_⟩
  show ∀ x, x ∈ withE f.inodes a es → x.kind = 1 → 1 ≤ x.links
  unfold withE
  split
  · rename_i y hy
    intro x hx
    rcases mem_set hx with rfl | hx
    · exact h.o y (List.mem_of_getElem? hy)
    · exact h.o x hx
  · exact h.o
theorem ents_mem {xs : List DInode} {a : Int} {e : DEnt} (h : e ∈ entsAt xs a) : ∃ i : Nat, (entsAt xs a)[i]? = some e := List.mem_iff_getElem?.1 h
theorem j_erase {f : DFs} (h : Jf f) {a : Int} {i : Nat} : Jf (takeF f a ((entsAt f.inodes a).eraseIdx i)) :=
  j_withE h (Nat.le_trans (List.length_eraseIdx_le _ _) (jents_len h.toJ0 a)) fun e he => by
    obtain ⟨j, hj⟩ := ents_mem (List.mem_of_mem_eraseIdx he)
    exact jents h.toJ0 hj
theorem putE_mem {es : List DEnt} {n e : DEnt} (h : e ∈ putE es n) : e = n ∨ e ∈ es := by
  simp only [putE, List.mem_append, List.mem_singleton] at h
  rcases h with (h | h) | h
  · exact .inr (List.mem_of_mem_take h)
  · exact .inl h
  · exact .inr (List.mem_of_mem_drop h)
theorem putE_len {es : List DEnt} {n : DEnt} : (putE es n).length = es.length + 1 := by
  simp only [putE, List.length_append, List.length_take, List.length_drop, List.length_cons, List.length_nil]
  omega
theorem j0_put {f : DFs} (h : J0 f) {a : Int} {e : DEnt} (h5 : (entsAt f.inodes a).length ≤ 5) (hp : placeIn f.inodes.length e.ino) (hn : e.name.size ≤ 4) : J0 (takeF f a (putE (entsAt f.inodes a) e)) :=
  j0_withE h (by rw [putE_len]; omega) fun e' he => by
    rcases putE_mem he with rfl | he
    · exact ⟨hp, hn⟩
    · obtain ⟨j, hj⟩ := ents_mem he; exact jents h hj
theorem j_withL {f : DFs} (h : J0 f) {a n : Int} (hk : kindAt f.inodes a = 1) (hn : 1 ≤ n ∧ n ≤ 60) (ho : ∀ (j : Nat) x, f.inodes[j]? = some x → j ≠ a.toNat → x.kind = 1 → 1 ≤ x.links) : Jf ⟨withL f.inodes a n, f.data⟩ := by
  unfold withL
  unfold kindAt at hk
  cases hx : f.inodes[a.toNat]? with
  | none => rw [hx] at hk; exact absurd hk (by decide)
  | some y =>
    rw [hx] at hk
    simp only at hk ⊢
    have := h.get hx
    refine ⟨j0_set h ⟨this.k, by dsimp only; omega, .inl hk, this.s, this.b, this.bl, this.e6, this.e⟩, fun x hm hk1 => ?_⟩
    obtain ⟨i, hi⟩ := List.mem_iff_getElem?.1 hm
    rw [List.getElem?_set] at hi
    split at hi
    · split at hi
      · obtain rfl := Option.some.inj hi; exact hn.1
      · cases hi
    · rename_i hne; exact ho i x hi (fun e => hne e.symm) hk1
theorem j_drop {f : DFs} (h : Jf f) (k : Int) : Jf (dropF f k) :=
  j_data (j_set h (jx_zero _) (fun hk => absurd hk (by decide))) (by rw [dropB_len]; exact h.d)
theorem j_less {f : DFs} (h : Jf f) (k : Int) : Jf (lessF f k) := by
  by_cases h1 : kindAt f.inodes k = 1
  · by_cases h2 : 1 < linksAt f.inodes k
    · rw [lessF_l h1 h2]
      exact j_withL h.toJ0 h1 (by have := jlinks h.toJ0 k; omega) fun j x hx _ => h.o x (List.mem_of_getElem? hx)
    · by_cases h3 : linksOf f.inodes k = 0
      · rw [lessF_d h1 h2 h3]; exact j_drop h k
      · rw [lessF_s h1 h2 h3]; exact h
  · rw [lessF_k h1]; exact h
def take2 (f : DFs) (a : Int) (i : Nat) : DFs :=
  if kindAt (lessF (takeF f a ((entsAt f.inodes a).eraseIdx i)) (inoAt (entsAt f.inodes a) i)).inodes (inoAt (entsAt f.inodes a) i) = 2 then ⟨(lessF (takeF f a ((entsAt f.inodes a).eraseIdx i)) (inoAt (entsAt f.inodes a) i)).inodes.set (inoAt (entsAt f.inodes a) i).toNat ⟨0, 0, 0, [], []⟩, (lessF (takeF f a ((entsAt f.inodes a).eraseIdx i)) (inoAt (entsAt f.inodes a) i)).data⟩
  else lessF (takeF f a ((entsAt f.inodes a).eraseIdx i)) (inoAt (entsAt f.inodes a) i)
theorem take2_d {f : DFs} {a : Int} {i : Nat} (h : kindAt (lessF (takeF f a ((entsAt f.inodes a).eraseIdx i)) (inoAt (entsAt f.inodes a) i)).inodes (inoAt (entsAt f.inodes a) i) = 2) : take2 f a i = ⟨(lessF (takeF f a ((entsAt f.inodes a).eraseIdx i)) (inoAt (entsAt f.inodes a) i)).inodes.set (inoAt (entsAt f.inodes a) i).toNat ⟨0, 0, 0, [], []⟩, (lessF (takeF f a ((entsAt f.inodes a).eraseIdx i)) (inoAt (entsAt f.inodes a) i)).data⟩ := if_pos h
theorem take2_n {f : DFs} {a : Int} {i : Nat} (h : ¬ kindAt (lessF (takeF f a ((entsAt f.inodes a).eraseIdx i)) (inoAt (entsAt f.inodes a) i)).inodes (inoAt (entsAt f.inodes a) i) = 2) : take2 f a i = lessF (takeF f a ((entsAt f.inodes a).eraseIdx i)) (inoAt (entsAt f.inodes a) i) := if_neg h
theorem less_len {f : DFs} {k : Int} : (lessF f k).inodes.length = f.inodes.length := by
  unfold lessF
  split
  · split
    · exact withL_len
    · split
      · simp
      · rfl
  · rfl
theorem j_take2 {f : DFs} (h : Jf f) (a : Int) (i : Nat) : Jf (take2 f a i) := by
  have h1 := j_less (j_erase h (a := a) (i := i)) (inoAt (entsAt f.inodes a) i)
  unfold take2
  split
  · exact j_set h1 (jx_zero _) (fun hk => absurd hk (by decide))
  · exact h1
theorem take2_len {f : DFs} {a : Int} {i : Nat} : (take2 f a i).inodes.length = f.inodes.length := by
  unfold take2
  split
  · rw [List.length_set, less_len]; exact withE_len
  · rw [less_len]; exact withE_len
theorem ents_set {xs : List DInode} {j : Nat} {y : DInode} {d : Int} (h : d.toNat ≠ j) : entsAt (xs.set j y) d = entsAt xs d := by
  unfold entsAt
  rw [List.getElem?_set_ne (fun e => h e.symm)]
theorem ents_withL {xs : List DInode} {a n d : Int} : entsAt (withL xs a n) d = entsAt xs d := by
  unfold entsAt
  cases h : (withL xs a n)[d.toNat]? with
  | none => rw [List.getElem?_eq_none_iff, withL_len] at h; rw [List.getElem?_eq_none h]
  | some y => obtain ⟨x, hx, rfl⟩ := withL_get _ y h; rw [hx]
theorem ents_withE {xs : List DInode} {a d : Int} {es : List DEnt} (h : a.toNat < xs.length) : entsAt (withE xs a es) d = if d.toNat = a.toNat then es else entsAt xs d := by
  unfold entsAt
  cases hg : (withE xs a es)[d.toNat]? with
  | none =>
    rw [List.getElem?_eq_none_iff, withE_len] at hg
    rw [if_neg (by omega), List.getElem?_eq_none hg]
  | some y => obtain ⟨x, hx, rfl⟩ := withE_get _ y hg; rw [hx]
theorem ents_less {f : DFs} {k d : Int} (h : d.toNat ≠ k.toNat) : entsAt (lessF f k).inodes d = entsAt f.inodes d := by
  unfold lessF
  split
  · split
    · exact ents_withL
    · split
      · exact ents_set h
      · rfl
  · rfl
theorem ents_less_len {f : DFs} {k d : Int} : (entsAt (lessF f k).inodes d).length ≤ (entsAt f.inodes d).length := by
  by_cases h : d.toNat = k.toNat
  · unfold lessF
    split
    · split
      · rw [ents_withL]; exact Nat.le_refl _
      · split
        · show (entsAt (f.inodes.set k.toNat ⟨0, 0, 0, [], []⟩) d).length ≤ _
          by_cases hl : k.toNat < f.inodes.length
          · have : entsAt (f.inodes.set k.toNat ⟨0, 0, 0, [], []⟩) d = [] := by unfold entsAt; rw [h, List.getElem?_set_self hl]
            rw [this]; exact Nat.zero_le _
          · rw [List.set_eq_of_length_le (by omega)]; exact Nat.le_refl _
        · exact Nat.le_refl _
    · exact Nat.le_refl _
  · rw [ents_less h]; exact Nat.le_refl _
theorem ents_set0_len {xs : List DInode} {j : Nat} {d : Int} : (entsAt (xs.set j ⟨0, 0, 0, [], []⟩) d).length ≤ (entsAt xs d).length := by
  by_cases h : d.toNat = j
  · by_cases hl : j < xs.length
    · have : entsAt (xs.set j ⟨0, 0, 0, [], []⟩) d = [] := by unfold entsAt; rw [h, List.getElem?_set_self hl]
      rw [this]; exact Nat.zero_le _
    · rw [List.set_eq_of_length_le (by omega)]; exact Nat.le_refl _
  · rw [ents_set h]; exact Nat.le_refl _
theorem take2_ents {f : DFs} {a d : Int} {i : Nat} (ha : a.toNat < f.inodes.length) (hd : d.toNat ≠ (inoAt (entsAt f.inodes a) i).toNat) : entsAt (take2 f a i).inodes d = if d.toNat = a.toNat then (entsAt f.inodes a).eraseIdx i else entsAt f.inodes d := by
  have h1 : entsAt (lessF (takeF f a ((entsAt f.inodes a).eraseIdx i)) (inoAt (entsAt f.inodes a) i)).inodes d = if d.toNat = a.toNat then (entsAt f.inodes a).eraseIdx i else entsAt f.inodes d := by
    rw [ents_less hd]; exact ents_withE ha
  unfold take2
  split
  · show entsAt (List.set _ _ _) d = _
    rw [ents_set hd]; exact h1
  · exact h1
theorem take2_shrink {f : DFs} {a : Int} {i : Nat} (ha : a.toNat < f.inodes.length) (hi : i < (entsAt f.inodes a).length) : (entsAt (take2 f a i).inodes a).length + 1 ≤ (entsAt f.inodes a).length := by
  have h0 : (entsAt (takeF f a ((entsAt f.inodes a).eraseIdx i)).inodes a).length + 1 = (entsAt f.inodes a).length := by
    show (entsAt (withE f.inodes a _) a).length + 1 = _
    rw [ents_withE ha, if_pos rfl, List.length_eraseIdx_of_lt hi]; omega
  have h1 := ents_less_len (f := takeF f a ((entsAt f.inodes a).eraseIdx i)) (k := inoAt (entsAt f.inodes a) i) (d := a)
  unfold take2
  split
  · have h2 := ents_set0_len (xs := (lessF (takeF f a ((entsAt f.inodes a).eraseIdx i)) (inoAt (entsAt f.inodes a) i)).inodes) (j := (inoAt (entsAt f.inodes a) i).toNat) (d := a)
    show (entsAt (List.set _ _ _) a).length + 1 ≤ _
    omega
  · omega
theorem j_add {f : DFs} (h : J0 f) {a b : Int} {s : ByteArray} (hs : s.size ≤ 4) (ho : addC f a s b = 0 ∨ Jf f) (hf : ∀ (j : Nat) x, f.inodes[j]? = some x → j ≠ b.toNat → x.kind = 1 → 1 ≤ x.links) : Jf (addF f a s b) := by
  by_cases hc : addC f a s b = 0
  · have hc' := hc
    unfold addC at hc'
    split at hc'
    · exact absurd hc' (by decide)
    · split at hc'
      · exact absurd hc' (by decide)
      · split at hc'
        · exact absurd hc' (by decide)
        · rename_i h1 h2 h3
          have h2' : placeIn f.inodes.length b ∧ kindAt f.inodes b ≠ 0 := Classical.byContradiction h2
          have hj := j0_put h (a := a) (e := ⟨s, b⟩) (by omega) h2'.1 hs
          have hoth : ∀ (j : Nat) x, (withE f.inodes a (putE (entsAt f.inodes a) ⟨s, b⟩))[j]? = some x → j ≠ b.toNat → x.kind = 1 → 1 ≤ x.links := fun j x hx hne hk => by
            obtain ⟨y, hy, rfl⟩ := withE_get _ x hx
            exact hf j y hy hne hk
          by_cases hk : kindAt f.inodes b = 1
          · rw [addF_f hc hk]
            exact j_withL hj (by rw [withE_kind]; exact hk) (by have := jlinks h b; omega) hoth
          · rw [addF_d hc hk]
            refine ⟨hj, fun x hx hk1 => ?_⟩
            obtain ⟨j, hjx⟩ := List.mem_iff_getElem?.1 hx
            by_cases hjb : j = b.toNat
            · subst hjb
              obtain ⟨y, hy, rfl⟩ := withE_get _ x hjx
              unfold kindAt at hk
              rw [hy] at hk
              exact absurd hk1 hk
            · exact hoth j x hjx hjb hk1
  · rw [addF_n hc]
    exact ho.elim (fun h => absurd h hc) id
theorem j_add' {f : DFs} (h : Jf f) {a b : Int} {s : ByteArray} (hs : s.size ≤ 4) : Jf (addF f a s b) := j_add h.toJ0 hs (.inr h) fun j x hx _ => h.o x (List.mem_of_getElem? hx)
theorem j_make {f : DFs} (h : Jf f) {xs : List DInode} (hxs : xs = f.inodes ∨ (f.inodes.length < 10 ∧ xs = f.inodes ++ [⟨0, 0, 0, [], []⟩])) {a b k : Int} {s : ByteArray} (hk : 1 ≤ k ∧ k ≤ 2) (hb : 0 ≤ b ∧ b < (xs.length : Int)) (hs : s.size ≤ 4) (hl : lookI (entsAt xs a) s < 0) (h6 : (entsAt xs a).length < 6) (hne : a.toNat ≠ b.toNat) :
    J0 ⟨xs.set b.toNat ⟨k, 0, 0, [], []⟩, f.data⟩ ∧ Jf (addF ⟨xs.set b.toNat ⟨k, 0, 0, [], []⟩, f.data⟩ a s b) := by
  have hj : Jf ⟨xs, f.data⟩ := by
    rcases hxs with rfl | ⟨h1, rfl⟩
    · exact h
    · exact j_grow h h1
  have h0 := j0_set hj.toJ0 (j := b.toNat) (jx_kind (n := xs.length) (k := k) (by omega))
  have hlt : b.toNat < xs.length := by omega
  have hkb : kindAt (xs.set b.toNat ⟨k, 0, 0, [], []⟩) b = k := by unfold kindAt; rw [List.getElem?_set_self hlt]
  have hlb : linksAt (xs.set b.toNat ⟨k, 0, 0, [], []⟩) b = 0 := by unfold linksAt; rw [List.getElem?_set_self hlt]
  have hea : entsAt (xs.set b.toNat ⟨k, 0, 0, [], []⟩) a = entsAt xs a := ents_set hne
  have hc : addC ⟨xs.set b.toNat ⟨k, 0, 0, [], []⟩, f.data⟩ a s b = 0 := by
    refine addC_0 ?_ ?_ ?_
    · show ¬ 0 ≤ lookI (entsAt (xs.set b.toNat _) a) s
      rw [hea]; omega
    · show placeIn (xs.set b.toNat _).length b ∧ kindAt (xs.set b.toNat _) b ≠ 0
      rw [hkb, List.length_set]
      exact ⟨⟨hb.1, by omega⟩, by omega⟩
    · show ¬ (6 ≤ (entsAt (xs.set b.toNat _) a).length ∨ (kindAt (xs.set b.toNat _) b = 1 ∧ 60 ≤ linksAt (xs.set b.toNat _) b))
      rw [hea, hlb]; omega
  refine ⟨h0, j_add h0 hs (.inl hc) fun j x hx hne hk1 => ?_⟩
  have hx' : (xs.set b.toNat ⟨k, 0, 0, [], []⟩)[j]? = some x := hx
  rw [List.getElem?_set_ne (fun e => hne e.symm)] at hx'
  exact hj.o x (List.mem_of_getElem? hx') hk1
theorem j_setF {f : DFs} (h : Jf f) {a : Int} {L : List UInt8} {ws : List Int} (hL : L.length ≤ 32) (hw : ∀ b, b ∈ ws → 0 ≤ b ∧ b ≤ 19) (hl : ws.length ≤ 4) : Jf (setF f a L ws) := by
  have hd : (setD (dropAll f a) ws L ws.length).length = 20 := by rw [setD_len, dropB_len]; exact h.d
  show Jf ⟨withB f.inodes a L.length ws, setD (dropAll f a) ws L ws.length⟩
  unfold withB
  cases hx : f.inodes[a.toNat]? with
  | none => exact j_data (xs := f.inodes) h hd
  | some y =>
    have := h.get hx
    exact j_data (j_set (y := ⟨y.kind, y.links, L.length, ws, y.ents⟩) h ⟨this.k, this.l, this.z, by dsimp only; omega, hw, hl, this.e6, this.e⟩ (h.o y (List.mem_of_getElem? hx))) hd
theorem withB_len {xs : List DInode} {a n : Int} {ws : List Int} : (withB xs a n ws).length = xs.length := by
  unfold withB; split <;> simp
theorem j_setG {f : DFs} (h : Jf f) {a : Int} {L : List UInt8} {busy : List Int} (hc : (setG f a L busy).code = 0) : Jf (setG f a L busy).fs ∧ (setG f a L busy).fs.inodes.length = f.inodes.length := by
  by_cases h1 : (L.length : Int) ≤ 32
  · by_cases h2 : (pickB f L busy).code = 0
    · rw [setG_0 h1 h2]
      have hp := pick_in h2
      have h9 : ((pickB f L busy).list.length : Int) = ((L.length : Int) + 7) / 8 := hp.2
      exact ⟨j_setF h (by omega) hp.1 (by omega), withB_len⟩
    · rw [setG_p h1 h2] at hc; exact absurd hc h2
  · rw [setG_2 h1] at hc; exact absurd hc (by decide)
theorem j_write {f : DFs} (h : Jf f) {a i : Int} {ys : List UInt8} {busy : List Int} (hc : (writeR f a i ys busy).code = 0) : Jf (writeR f a i ys busy).fs ∧ (writeR f a i ys busy).fs.inodes.length = f.inodes.length := by
  unfold writeR at hc ⊢
  split at hc
  · rename_i h1
    rw [if_pos h1]
    split at hc
    · rename_i h2
      rw [if_pos h2]
      split at hc
      · exact absurd hc (by decide)
      · rename_i h3
        rw [if_neg h3]
        split at hc
        · rename_i h4; rw [if_pos h4]; exact ⟨h, rfl⟩
        · rename_i h4; rw [if_neg h4]; exact j_setG h hc
    · exact absurd hc (by decide)
  · rename_i h1; exact absurd hc h1
theorem j_cut {f : DFs} (h : Jf f) {a n : Int} {busy : List Int} (hc : (cutR f a n busy).code = 0) : Jf (cutR f a n busy).fs ∧ (cutR f a n busy).fs.inodes.length = f.inodes.length := by
  unfold cutR at hc ⊢
  split at hc
  · rename_i h1
    rw [if_pos h1]
    split at hc
    · rename_i h2; rw [if_pos h2]; exact j_setG h hc
    · exact absurd hc (by decide)
  · rename_i h1; exact absurd hc h1
theorem idx_of_name {es : List DEnt} {s : ByteArray} {e : DEnt} (h : e ∈ es) (hn : e.name = s) : 0 ≤ idxF (nameP s) es := by
  unfold idxF
  cases hf : es.findIdx? (nameP s) with
  | some i => simp only; omega
  | none =>
    have := List.findIdx?_eq_none_iff.1 hf e h
    simp [hn] at this
theorem mem_erase {α : Type} {xs : List α} {i j : Nat} {x : α} (h : xs[i]? = some x) (hne : i ≠ j) : x ∈ xs.eraseIdx j := by
  by_cases hlt : i < j
  · exact List.mem_of_getElem? (i := i) (by rw [List.getElem?_eraseIdx_of_lt hlt]; exact h)
  · exact List.mem_of_getElem? (i := i - 1) (by rw [List.getElem?_eraseIdx_of_ge (by omega), show i - 1 + 1 = i by omega]; exact h)
theorem ren_still {f : DFs} (h : Jf f) {d t : Int} {s : ByteArray} {i k : Nat} (hd : placeIn f.inodes.length d) (ht : placeIn f.inodes.length t) (hi : idxF (nameP s) (entsAt f.inodes d) = (i : Int)) (hk : k < (entsAt f.inodes t).length)
    (hne : inoAt (entsAt f.inodes t) k ≠ inoAt (entsAt f.inodes d) i) (h0 : (entsAt f.inodes (inoAt (entsAt f.inodes t) k)).length = 0) : 0 ≤ idxF (nameP s) (entsAt (take2 f t k).inodes d) := by
  have hr := idxF_rng (nameP s) (entsAt f.inodes d)
  obtain ⟨e, he⟩ := get_ex (xs := entsAt f.inodes d) (j := i) (by omega)
  have hen : e.name = s := by
    unfold idxF at hi
    cases hf : (entsAt f.inodes d).findIdx? (nameP s) with
    | none => rw [hf] at hi; simp only at hi; omega
    | some q =>
      rw [hf] at hi
      obtain rfl : q = i := by simp only at hi; omega
      obtain ⟨h1, h2, -⟩ := List.findIdx?_eq_some_iff_getElem.1 hf
      rw [List.getElem?_eq_getElem h1] at he
      obtain rfl := Option.some.inj he
      exact of_decide_eq_true h2
  have hp := jino_place h.toJ0 hk
  have hdo : d.toNat ≠ (inoAt (entsAt f.inodes t) k).toNat := fun e2 => by
    have : d = inoAt (entsAt f.inodes t) k := by have := hd.1; have := hp.1; omega
    rw [← this] at h0
    have := (List.getElem?_eq_some_iff.1 he).1
    omega
  rw [take2_ents (by have := ht.1; have := ht.2; omega) hdo]
  split
  · rename_i hdt
    obtain rfl : d = t := by have := hd.1; have := ht.1; omega
    refine idx_of_name (mem_erase he fun e2 => ?_) hen
    subst e2
    exact hne rfl
  · exact idx_of_name (List.mem_of_getElem? he) hen
theorem free_rng (xs : List DInode) : -1 ≤ freeAt xs ∧ freeAt xs ≤ (xs.length : Int) := by
  unfold freeAt
  cases hf : xs.findIdx? (fun x => decide (x.kind = 0)) with
  | none => simp only; split <;> omega
  | some i => have := (List.findIdx?_eq_some_iff_getElem.1 hf).1; simp only; omega
theorem free_last {xs : List DInode} (h : freeAt xs = (xs.length : Int)) (h10 : xs.length ≤ 10) : xs.length < 10 := by
  unfold freeAt at h
  cases hf : xs.findIdx? (fun x => decide (x.kind = 0)) with
  | none => rw [hf] at h; simp only at h; split at h <;> omega
  | some i => rw [hf] at h; have := (List.findIdx?_eq_some_iff_getElem.1 hf).1; simp only at h; omega
theorem free_kind {xs : List DInode} (h : 0 ≤ freeAt xs) : kindAt xs (freeAt xs) = 0 := by
  unfold freeAt at h ⊢
  cases hf : xs.findIdx? (fun x => decide (x.kind = 0)) with
  | none =>
    simp only
    split
    · rename_i h1; rw [hf, if_pos h1] at h; exact absurd h (by decide)
    · exact kind_out (Int.le_refl _)
  | some i =>
    obtain ⟨h1, h2, -⟩ := List.findIdx?_eq_some_iff_getElem.1 hf
    simp only
    rw [kind_at (List.getElem?_eq_getElem h1) rfl]
    exact of_decide_eq_true h2
theorem parP_kind {f : DFs} {s : ByteArray} (h : (parP f s).2.2 = 0) : kindAt f.inodes (parP f s).1 = 2 := by
  by_cases h1 : lastC s = 0
  · by_cases h2 : (wkC f.inodes 0 (lastN s)).2 = 0
    · by_cases h3 : kindAt f.inodes (wkC f.inodes 0 (lastN s)).1 = 2
      · rw [parP_0 h1 h2 h3]; exact h3
      · rw [parP_9 h1 h2 h3] at h; exact absurd h (by decide)
    · rw [parP_w h1 h2] at h; exact absurd h h2
  · rw [parP_c h1] at h; exact absurd h h1
theorem jents_app {xs : List DInode} {y : DInode} {a : Int} (h : a.toNat < xs.length) : entsAt (xs ++ [y]) a = entsAt xs a := by
  unfold entsAt
  rw [List.getElem?_append_left h]
theorem j_mk {f : DFs} (hj : Jf f) {p : ByteArray} {k : Int} {xs : List DInode} (hk : 1 ≤ k ∧ k ≤ 2) (hc : (parP f p).2.2 = 0) (hl : idxF (nameP (parP f p).2.1) (entsAt f.inodes (parP f p).1) < 0) (h6 : (entsAt f.inodes (parP f p).1).length < 6) (hb : 0 ≤ freeAt f.inodes)
    (hxs : (¬ freeAt f.inodes = (f.inodes.length : Int) ∧ xs = f.inodes) ∨ (freeAt f.inodes = (f.inodes.length : Int) ∧ xs = f.inodes ++ [⟨0, 0, 0, [], []⟩])) :
    J0 ⟨xs.set (freeAt f.inodes).toNat ⟨k, 0, 0, [], []⟩, f.data⟩ ∧ Jf (addF ⟨xs.set (freeAt f.inodes).toNat ⟨k, 0, 0, [], []⟩, f.data⟩ (parP f p).1 (parP f p).2.1 (freeAt f.inodes)) ∧
    placeIn (xs.set (freeAt f.inodes).toNat ⟨k, 0, 0, [], []⟩).length (parP f p).1 ∧ (entsAt (xs.set (freeAt f.inodes).toNat ⟨k, 0, 0, [], []⟩) (parP f p).1).length ≤ 6 := by
  have hp := jparP_place hj.toJ0 p
  have hr := free_rng f.inodes
  have h10 := hj.n.2
  have ha : (parP f p).1.toNat < f.inodes.length := by have := hp.1; have := hp.2; omega
  have hne : (parP f p).1.toNat ≠ (freeAt f.inodes).toNat := fun e => by
    have h1 := parP_kind hc
    have h2 := free_kind hb
    rw [show freeAt f.inodes = (parP f p).1 by have := hp.1; omega] at h2
    omega
  have he : entsAt xs (parP f p).1 = entsAt f.inodes (parP f p).1 := by
    rcases hxs with ⟨-, rfl⟩ | ⟨-, rfl⟩
    · rfl
    · exact jents_app ha
  have hlen : (freeAt f.inodes) < (xs.length : Int) ∧ f.inodes.length ≤ xs.length := by
    rcases hxs with ⟨h1, rfl⟩ | ⟨h1, rfl⟩
    · omega
    · rw [List.length_append]; simp only [List.length_cons, List.length_nil]; omega
  have hm := j_make hj (xs := xs) (a := (parP f p).1) (b := freeAt f.inodes) (k := k) (s := (parP f p).2.1) (by
    rcases hxs with ⟨h1, rfl⟩ | ⟨h1, rfl⟩
    · exact .inl rfl
    · exact .inr ⟨free_last h1 h10, rfl⟩) hk ⟨hb, hlen.1⟩ parP_size (by rw [he, look_none hl]; decide) (by rw [he]; exact h6) hne
  refine ⟨hm.1, hm.2, ?_, ?_⟩
  · rw [List.length_set]; exact ⟨hp.1, by have := hp.2; omega⟩
  · rw [ents_set hne, he]; omega
theorem j_put2 {G : DFs} (h : Jf G) {j : Nat} {y : DInode} {e : DEnt} (hy : G.inodes[j]? = some y) (h5 : y.ents.length ≤ 5) (hp : placeIn G.inodes.length e.ino) (hn : e.name.size ≤ 4) : Jf ⟨G.inodes.set j ⟨y.kind, y.links, y.size, y.blocks, putE y.ents e⟩, G.data⟩ := by
  have := h.get hy
  refine j_set (xs := G.inodes) (d := G.data) h ⟨this.k, this.l, this.z, this.s, this.b, this.bl, by show (putE y.ents e).length ≤ 6; rw [putE_len]; omega, fun e' he => ?_⟩ (h.o y (List.mem_of_getElem? hy))
  rcases putE_mem he with rfl | he
  · exact ⟨⟨hp.1, by have := hp.2; omega⟩, hn⟩
  · exact this.e e' he
theorem ren_len {F : DFs} {d t : Int} {i : Nat} (hd : placeIn F.inodes.length d) (ht : placeIn F.inodes.length t) (hi : i < (entsAt F.inodes d).length) : (entsAt (takeF F d ((entsAt F.inodes d).eraseIdx i)).inodes t).length ≤ (entsAt F.inodes t).length ∧ (t = d → (entsAt (takeF F d ((entsAt F.inodes d).eraseIdx i)).inodes t).length + 1 ≤ (entsAt F.inodes t).length) := by
  have h1 : entsAt (takeF F d ((entsAt F.inodes d).eraseIdx i)).inodes t = if t.toNat = d.toNat then (entsAt F.inodes d).eraseIdx i else entsAt F.inodes t := ents_withE (by have := hd.1; have := hd.2; omega)
  rw [h1]
  split
  · rename_i h2
    obtain rfl : t = d := by have := hd.1; have := ht.1; omega
    rw [List.length_eraseIdx_of_lt hi]
    omega
  · rename_i h2
    exact ⟨Nat.le_refl _, fun e => absurd (by rw [e]) h2⟩
end Go.Proofs.YtmejbfmhaoilmaaGreat
/- What is proved: a slice of one's own opened up in the middle, and the gap filled; zeros appended; two slices apart. No condition. -/
namespace Go.Proofs.YtmejbfmhaoilmaaGreat
open Go Go.RowKit
set_option linter.unusedVariables false
set_option linter.unusedSimpArgs false
section
variable {P : Program} {T : Slots} {o : Oper} {w0 : World} {S0 : Bs} {l l' : List Asn}
end
end Go.Proofs.YtmejbfmhaoilmaaGreat
/- What is proved: what is found below a place within ten steps is what can be reached, in plain Lean. No condition. -/
namespace Go.Proofs.YtmejbfmhaoilmaaGreat
open Go Go.RowKit
set_option linter.unusedVariables false
set_option linter.unusedSimpArgs false
def wi (xs : List DInode) (a : Int) : Nat → Int → Bool
  | 0, b => decide (b = a)
  | n + 1, b => decide (b = a) || (entsAt xs b).any (fun e => wi xs a n e.ino)
theorem wi_eq {xs : List DInode} {a b : Int} {n : Nat} (h : b = a) : wi xs a n b = true := by
  cases n <;> simp [wi, h]
theorem wi_hit {xs : List DInode} {a b : Int} {n k : Nat} {e : DEnt} (hn : 0 < n) (he : (entsAt xs b)[k]? = some e) (h : wi xs a (n - 1) e.ino = true) : wi xs a n b = true := by
  obtain ⟨m, rfl⟩ : ∃ m, n = m + 1 := ⟨n - 1, by omega⟩
  simp only [wi, Bool.or_eq_true]
  exact .inr (List.any_eq_true.2 ⟨e, List.mem_of_getElem? he, by simpa using h⟩)
theorem wi_no {xs : List DInode} {a b : Int} {n : Nat} (h : ¬ b = a) (hk : n = 0 ∨ ∀ (j : Nat) (e : DEnt), (entsAt xs b)[j]? = some e → wi xs a (n - 1) e.ino = false) : wi xs a n b = false := by
  cases n with
  | zero => simp [wi, h]
  | succ m =>
    have hk' := hk.resolve_left (by omega)
    simp only [wi, Bool.or_eq_false_iff, decide_eq_false h, true_and]
    rw [List.any_eq_false]
    intro e he
    obtain ⟨j, hj⟩ := List.mem_iff_getElem?.1 he
    have := hk' j e hj
    simpa using this
end Go.Proofs.YtmejbfmhaoilmaaGreat
/- What is proved: small laws for what draws numbers from bytes. No condition. -/
namespace Go.Proofs.YtmejbfmhaoilmaaGreat
open Go Go.RowKit
theorem tmod_in {x n : Int} (hx : 0 ≤ x) (hn : 1 ≤ n) : 0 ≤ Int.tmod x n ∧ Int.tmod x n < n :=
  ⟨Int.tmod_nonneg _ hx, Int.tmod_lt_of_pos _ (by omega)⟩
theorem div_in {x n : Int} (hx : 0 ≤ x) (hn : 1 ≤ n) : 0 ≤ x / n ∧ x / n ≤ x :=
  ⟨Int.ediv_nonneg hx (by omega), Int.ediv_le_self _ hx⟩
theorem src_hl {α : Type} {K : Kd α} {e by_ : Nat} {w : World} {F : Bs} {xs : List α} {A : Option Addr} {c : Nat} (h : (kslice e by_ K).ro w F xs [.slice A xs.length c]) : xs.length ≤ c ∧ c ≤ 9223372036854775807 ∧ xs.length * by_ ≤ 140737488355328 := by
  obtain ⟨A', c', hv, h1, h2, h3, _⟩ := ro_form h
  cases hv
  exact ⟨h1, h2, h3⟩
end Go.Proofs.YtmejbfmhaoilmaaGreat
/- What is proved: the names that are drawn have no fault. No condition. -/
namespace Go.Proofs.YtmejbfmhaoilmaaGreat
open Go
theorem names_ok6 : ∀ s : ByteArray, s ∈ ([⟨#[97]⟩, ⟨#[98]⟩, ⟨#[99]⟩, ⟨#[100]⟩, ⟨#[97, 98]⟩, ⟨#[104, 97, 108, 108]⟩] : List ByteArray) → nameFault s = 0 := by decide
theorem names_le4 : ∀ s : ByteArray, s ∈ ([⟨#[97]⟩, ⟨#[97, 98]⟩, ⟨#[98]⟩, ⟨#[99]⟩, ⟨#[104, 97, 108, 108]⟩] : List ByteArray) → s.size ≤ 4 := by decide
theorem names_sz5 : ∀ s : ByteArray, s ∈ ([⟨#[97]⟩, ⟨#[97, 98]⟩, ⟨#[98]⟩, ⟨#[99]⟩, ⟨#[104, 97, 108, 108]⟩] : List ByteArray) → s.size ≤ 140737488351232 := by decide
theorem names_sl3 : ∀ s : ByteArray, s ∈ ([⟨#[47, 97]⟩, ⟨#[47, 98]⟩, ⟨#[47, 99]⟩] : List ByteArray) → s.size ≤ 140737488351232 := by decide
end Go.Proofs.YtmejbfmhaoilmaaGreat
/- What is proved: three that act are ready in a region that draws: any may be the next. No condition. -/
namespace Go.Proofs.YtmejbfmhaoilmaaGreat
open Go Go.RowKit
section
variable {N : Nat} {w0 : World} {S0 : Bs} {F : Act → World → Prop} {T : Slots} {l lk : List Asn} {P : Program} {Q : Exit → Act → World → Prop} {K : Act → World → Prop} {ops : Array Oper} {last : Nat}
end
end Go.Proofs.YtmejbfmhaoilmaaGreat
/- What is proved: an element of a row of one's own, a struct, is read whole. No condition. -/
namespace Go.Proofs.YtmejbfmhaoilmaaGreat
open Go Go.RowKit
set_option linter.unusedVariables false
section
variable {w0 : World} {S0 : Bs} {l l' : List Asn}
end
end Go.Proofs.YtmejbfmhaoilmaaGreat
/- What is proved: an inode read back from its words, in plain Lean. No condition. -/
namespace Go.Proofs.YtmejbfmhaoilmaaGreat
open Go Go.RowKit
set_option linter.unusedVariables false
set_option linter.unusedSimpArgs false
end Go.Proofs.YtmejbfmhaoilmaaGreat
/- What is proved: how long what is packed gets, of inodes that may be faulty; packed and unpacked again. Plain Lean. No condition. -/
namespace Go.Proofs.YtmejbfmhaoilmaaGreat
open Go Go.RowKit
set_option linter.unusedVariables false
set_option linter.unusedSimpArgs false
end Go.Proofs.YtmejbfmhaoilmaaGreat
/- What is proved: small laws for drawn inodes. No condition. -/
namespace Go.Proofs.YtmejbfmhaoilmaaGreat
open Go
theorem inodes_snoc {xs : List DInode} {x : DInode} (h : inodesFault xs = 0) (hx : inodeFault x = 0) (hl : (xs.length : Int) ≤ 9) : inodesFault (xs ++ [x]) = 0 := by
  refine inodesFault_0 (by simp only [List.length_append, List.length_cons, List.length_nil]; omega) fun j y _ hy => ?_
  have hm := List.mem_of_getElem? hy
  rcases List.mem_append.1 hm with hm | hm
  · exact inodes_all h y hm
  · obtain rfl := List.mem_singleton.1 hm; exact hx
theorem set_in {bs : List Int} {j : Nat} {v : Int} (h : ∀ b, b ∈ bs → 0 ≤ b ∧ b ≤ 19) (hv : 0 ≤ v ∧ v ≤ 19) : ∀ b, b ∈ bs.set j v → 0 ≤ b ∧ b ≤ 19 := fun b hb => by
  rcases List.mem_or_eq_of_mem_set hb with hb | rfl
  · exact h b hb
  · exact hv
end Go.Proofs.YtmejbfmhaoilmaaGreat
/- What is proved: what a function owns, from some point on only read: a new base of its frame. No condition. -/
namespace Go.Proofs.YtmejbfmhaoilmaaGreat
open Go Go.RowKit
set_option linter.unusedVariables false
section
variable {N : Nat} {w0 : World} {S0 : Bs} {F : Act → World → Prop} {T : Slots} {l : List Asn} {P : Program}
theorem Y.freeze {α : Type} {K : Kd α} {x : α} {cs : List Value} {l' : List Asn} (h : Take l (ownA K x cs) l')
    (k : ∀ (w1 : World) (S1 : Bs), (∀ {β : Type} {J : Kd β} {y : β} {ds : List Value}, J.ro w0 (FF w0 S0) y ds → J.ro w1 (FF w1 S1) y ds) → K.ro w1 (FF w1 S1) x cs → (∀ l w, WS w1 S1 l w → WS w0 S0 l w) → Y N w1 S1 F T l') : Y N w0 S0 F T l := by
  intro a w h1 h2 h3 h4
  obtain ⟨S, hs, hb, hf⟩ := h4.take h
  obtain ⟨A, B, hc, hl, iA, iB, d⟩ := hs
  have hc' := K.own_lt (show K.own w A x cs from hc)
  have hsub : ∀ b, FF w0 S0 b → FF w B b ∧ w.heap[b]? = w0.heap[b]? := fun b hF =>
    ⟨⟨Nat.lt_of_lt_of_le hF.1 hf.size, fun hB => (hb b (iB b hB)).elim hF.2 (fun h => absurd hF.1 (by omega))⟩, hf.block b hF.1 hF.2⟩
  refine k w B (fun {β} {J} {y} {ds} hr => J.ro_up (J.ro_loc hr fun b hF => (hsub b hF).2) fun b hF => (hsub b hF).1)
    (K.ro_up (K.own_ro hc') fun b hA => ⟨hA.2, fun hB => d b hA.1 hB⟩) (fun m w' hw => ?_) a w h1 h2 h3 ⟨B, hl, fun b hB => .inl hB, Fr.refl _ _⟩
  obtain ⟨S2, s1, s2, s3⟩ := hw
  exact ⟨S2, s1, fun b hS => (s2 b hS).elim (fun hB => hb b (iB b hB)) (fun hle => .inr (Nat.le_trans hf.size hle)), hf.trans s3 fun b hB => hb b (iB b hB)⟩
theorem Y.upR {w1 : World} {S1 : Bs} {fn : Func} {R : Value → List Asn → Prop} (hup : ∀ l w, WS w1 S1 l w → WS w0 S0 l w) (k : Y N w1 S1 (bodyPost P fn (TriPost w1 S1 R) .ret) T l) : Y N w1 S1 (bodyPost P fn (TriPost w0 S0 R) .ret) T l := fun a w h1 h2 h3 h4 => by
  obtain ⟨hd, v, hr, r, m, he, hR, hw⟩ := k a w h1 h2 h3 h4
  exact ⟨hd, v, hr, r, m, he, hR, hup _ _ hw⟩
end
end Go.Proofs.YtmejbfmhaoilmaaGreat
/- What is proved: values that are one's own and only read (a kind of their own): made, set aside as a new base of the frame, given back. No condition. -/
namespace Go.Proofs.YtmejbfmhaoilmaaGreat
open Go Go.RowKit
set_option linter.unusedVariables false
@[reducible] def kfro {α : Type} (K : Kd α) : Kd α where
  sz := K.sz
  pos := K.pos
  ro := K.ro
  own w S x cs := K.ro w (fun b => S b ∧ b < w.heap.size) x cs
  ro_len h := K.ro_len h
  ro_one h := K.ro_one h
  ro_up h := K.ro_up h
  ro_loc h := K.ro_loc h
  own_ro h := K.ro_up h fun _ hb => hb.1
  own_up h hs := K.ro_up h fun b hb => ⟨hs b hb.1, hb.2⟩
  own_loc := by
    intro w w' S x cs h hs
    refine K.ro_up (K.ro_loc h fun b hb => hs b hb.1) fun b hb => ⟨hb.1, ?_⟩
    have h1 := hs b hb.1
    rw [Array.getElem?_eq_getElem hb.2] at h1
    exact (Array.getElem?_eq_some_iff.1 h1).1
  own_lt h := K.ro_up h fun _ hb => ⟨hb, hb.2⟩
theorem own_kfro {α : Type} {K : Kd α} {x : α} {cs : List Value} (w : World) (S : Bs) (h : Star [ownA K x cs] w S) : (ownA (kfro K) x cs).p w S :=
  K.own_ro (K.own_lt (show K.own w S x cs from h.head (c := ownA K x cs)))
theorem own_sub_kfro {α : Type} {K : Kd α} {e by_ : Nat} {xs : List α} {A A' : Option Addr} {c a b : Nat} (hA : A' = (if c = a then A else Option.map (fun z => Addr.add z (a * K.sz)) A)) (h1 : a ≤ b) (h2 : b ≤ xs.length) (w : World) (S : Bs)
    (h : Star [ownA (kslice e by_ K) xs [.slice A xs.length c]] w S) : (ownA (kfro (kslice e by_ K)) (subL xs a b) [.slice A' (subL xs a b).length (c - a)]).p w S :=
  ro_sub (e := e) (by_ := by_) (a := a) (b := b) hA (own_kfro w S h) h1 h2
section
variable {N : Nat} {w0 : World} {S0 : Bs} {F : Act → World → Prop} {T : Slots} {l : List Asn} {P : Program}
theorem WS.kform {α : Type} {K : Kd α} {e by_ : Nat} {xs : List α} {v : Value} {l' : List Asn} (ht : Take l (ownA (kfro (kslice e by_ K)) xs [v]) l') : ∀ w, WS w0 S0 l w → ∃ A c, v = .slice A xs.length c ∧ xs.length ≤ c ∧ c ≤ 9223372036854775807 ∧ xs.length * by_ ≤ 140737488355328 := fun w hw => by
  obtain ⟨S, hs, _, _⟩ := hw.take ht
  have h : (kslice e by_ K).ro w (fun b => S b ∧ b < w.heap.size) xs [v] := hs.head (c := ownA (kfro (kslice e by_ K)) xs [v])
  obtain ⟨A, c, h1, h2, h3, h4, _⟩ := ro_form h
  exact ⟨A, c, h1, h2, h3, h4⟩
theorem Y.freezeF {α : Type} {K : Kd α} {x : α} {cs : List Value} {l' : List Asn} (h : Take l (ownA (kfro K) x cs) l')
    (k : ∀ (w1 : World) (S1 : Bs), (∀ {β : Type} {J : Kd β} {y : β} {ds : List Value}, J.ro w0 (FF w0 S0) y ds → J.ro w1 (FF w1 S1) y ds) → K.ro w1 (FF w1 S1) x cs → (∀ l w, WS w1 S1 l w → WS w0 S0 l w) → Y N w1 S1 F T l') : Y N w0 S0 F T l := Y.freeze h k
end
end Go.Proofs.YtmejbfmhaoilmaaGreat
/- What is proved: results of which one lies in memory. No condition. -/
namespace Go.Proofs.YtmejbfmhaoilmaaGreat
open Go Go.RowKit
set_option linter.unusedVariables false
set_option linter.unusedSimpArgs false
section
variable {w0 : World} {S0 : Bs} {T : Slots} {l : List Asn} {P : Program}
end
end Go.Proofs.YtmejbfmhaoilmaaGreat
/- What is proved: what can be reached is there; what is read in two parts is what is read in one; plain Lean. No condition. -/
namespace Go.Proofs.YtmejbfmhaoilmaaGreat
open Go Go.RowKit
set_option linter.unusedVariables false
set_option linter.unusedSimpArgs false
theorem reach_mem {xs : List DInode} {r : Nat} {a : Int} : a ∈ reachL xs r ↔ (0 ≤ a ∧ a < (xs.length : Int)) ∧ Reach xs r a.toNat := by
  unfold reachL
  rw [placesTo_mem, reachP_iff]
theorem reach_kept {f : DFs} (ht : treeFault f = 0) : ∀ i, Reach f.inodes 0 i → i < f.inodes.length ∧ ¬ kindAt f.inodes (i : Int) = 0 := by
  have h0 := rootOk (treeOk ht).1
  have hlt := reach_lt (treeI ht) (treeG ht) (treeL ht)
  intro i h
  refine ⟨hlt i h, ?_⟩
  cases h with
  | refl => have := h0.2.2.1; intro h; rw [show ((0 : Nat) : Int) = 0 from rfl] at h; omega
  | step h1 hx he =>
    have h2 := treeG ht _ _ hx _ _ he
    have h3 := (ents_ok (inodes_all (treeI ht) _ (List.mem_of_getElem? hx)) _ _ he).2.1
    intro h4
    exact h2 (by show kindAt f.inodes _ = 0; rw [show (_ : Int) = ((Int.toNat _ : Nat) : Int) from (Int.toNat_of_nonneg h3).symm]; exact h4)
theorem new_fault : fsFault (newF []) = 0 := by
  have hx : ∀ (j : Nat) (x : DInode), ([⟨2, 0, 0, [], []⟩] : List DInode)[j]? = some x → j = 0 ∧ x = ⟨2, 0, 0, [], []⟩ := fun j x h => by
    have := (List.getElem?_eq_some_iff.1 h).1
    simp at this
    subst this
    simp at h
    exact ⟨rfl, h.symm⟩
  have ht : treeFault (newF []) = 0 := by decide
  refine fsFault_0 ht (fun j x h => ?_) (fun j b h => ?_)
  · obtain ⟨rfl, rfl⟩ := hx j x h
    exact ⟨fun h => absurd h (by decide), fun _ _ => by decide, fun _ h => absurd h (by decide), fun _ => reach_mem.2 ⟨by decide, .refl⟩⟩
  · have hj := (List.getElem?_eq_some_iff.1 h).1
    have hl : (newF []).data.length = 20 := rfl
    have hb : b = [] := by
      have := List.mem_of_getElem? h
      exact List.eq_of_mem_replicate (show b ∈ List.replicate 20 ([] : List UInt8) from this)
    subst hb
    show (List.replicate 20 (0 : Int))[j]? = some 0
    rw [List.getElem?_replicate, if_pos (by omega)]
theorem trees_law {f : DFs} :
    (¬ (reachR f).code = 0 → fsFault f = (reachR f).code) ∧
    (∀ (i : Nat) (x : DInode), f.inodes[i]? = some x → (i : Int) ∈ (reachR f).list → ¬ x.kind = 0) ∧
    (∀ (i : Nat) (x : DInode) (k : Nat) (e : DEnt), f.inodes[i]? = some x → (i : Int) ∈ (reachR f).list → x.ents[k]? = some e → e.ino ∈ (reachR f).list) ∧
    (fsFault f = 0 → ∀ (i : Nat) (x : DInode), f.inodes[i]? = some x → ¬ x.kind = 0 → (i : Int) ∈ (reachR f).list) ∧
    ((reachR f).code = 0 → (0 : Int) ∈ (reachR f).list) ∧ ((newR []).code = 0 ∧ fsFault (newR []).fs = 0) := by
  have hN : newR [] = ⟨0, newF []⟩ := newR_0 new_fault
  by_cases ht : treeFault f = 0
  · rw [reachR_0 ht, hN]
    refine ⟨fun h => absurd rfl h, fun i x hx hi => ?_, fun i x k e hx hi he => ?_, fun hF i x hx hk => (fsOk hF).2.1 i x hx |>.way hk, fun _ => reach_mem.2 ⟨⟨Int.le_refl _, by have := treeL ht; omega⟩, .refl⟩, rfl, new_fault⟩
    · have h1 := (reach_kept ht _ (reach_mem.1 hi).2).2
      rw [Int.toNat_natCast, kind_at hx rfl] at h1
      exact h1
    · have h1 := (reach_mem.1 hi).2
      rw [Int.toNat_natCast] at h1
      have h3 := (ents_ok (inodes_all (treeI ht) _ (List.mem_of_getElem? hx)) _ _ he).2.1
      have h4 := ent_in (treeG ht _ _ hx _ _ he)
      exact reach_mem.2 ⟨⟨h3, h4⟩, .step h1 hx he⟩
  · rw [reachR_f ht, hN]
    exact ⟨fun _ => fsFault_t ht, fun i x hx hi => absurd hi (by simp), fun i x k e hx hi => absurd hi (by simp), fun hF => absurd (fsTree hF) ht, fun h => absurd h ht, rfl, new_fault⟩
end Go.Proofs.YtmejbfmhaoilmaaGreat

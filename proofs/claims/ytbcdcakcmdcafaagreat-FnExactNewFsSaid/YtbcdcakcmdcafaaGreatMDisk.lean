/- What is proved: the disk, as plain functions on data, and when each answer comes. No condition. -/
import Derived.Test.YtbcdcakcmdcafaaGreatPlain
namespace Go.Proofs.YtbcdcakcmdcafaaGreat
set_option linter.unusedVariables false
set_option linter.unusedSimpArgs false
def firstF {α : Type} (f : α → Int) : List α → Int
  | [] => 0
  | x :: xs => if f x = 0 then firstF f xs else f x
theorem firstF_none {α : Type} {f : α → Int} {xs : List α} (h : ∀ (j : Nat) x, xs[j]? = some x → f x = 0) : firstF f xs = 0 := by
  induction xs with
  | nil => rfl
  | cons x xs ih =>
    simp only [firstF, h 0 x rfl, if_true]
    exact ih (fun j y hy => h (j + 1) y hy)
theorem firstF_some {α : Type} {f : α → Int} : ∀ {xs : List α} {k : Nat} {x : α}, xs[k]? = some x → f x ≠ 0 → (∀ j y, j < k → xs[j]? = some y → f y = 0) → firstF f xs = f x
  | [], k, x, h, _, _ => by simp at h
  | y :: xs, 0, x, h, hn, _ => by
    simp at h; subst h
    simp only [firstF, if_neg hn]
  | y :: xs, k + 1, x, h, hn, ha => by
    simp only [firstF, ha 0 y (by omega) rfl, if_true]
    exact firstF_some (by simpa using h) hn (fun j z hj hz => ha (j + 1) z (by omega) (by simpa using hz))
def wordsFault (ws : List Int) : Int := if 64 < ws.length then 2 else if ws.any (fun w => !decide (0 ≤ w ∧ w ≤ 65535)) then 3 else 0
theorem wordsFault_2 {ws : List Int} (h : (64 : Int) < (ws.length : Int)) : wordsFault ws = 2 := by unfold wordsFault; rw [if_pos (by omega)]
theorem wordsFault_3 {ws : List Int} {k : Nat} {x : Int} (h : ¬ (64 : Int) < (ws.length : Int)) (hx : ws[k]? = some x) (hb : ¬ (0 ≤ x ∧ x ≤ 65535)) : wordsFault ws = 3 := by
  unfold wordsFault; rw [if_neg (by omega), if_pos]
  rw [List.any_eq_true]
  exact ⟨x, List.mem_of_getElem? hx, by simp only [hb, decide_false, Bool.not_false]⟩
theorem wordsFault_0 {ws : List Int} (h : ¬ (64 : Int) < (ws.length : Int)) (ha : ∀ (j : Nat) x, j < ws.length → ws[j]? = some x → 0 ≤ x ∧ x ≤ 65535) : wordsFault ws = 0 := by
  unfold wordsFault; rw [if_neg (by omega), if_neg]
  rw [List.any_eq_true]
  rintro ⟨x, hx, hb⟩
  obtain ⟨j, hj, rfl⟩ := List.mem_iff_getElem.1 hx
  have := ha j _ hj (List.getElem?_eq_getElem hj)
  simp [this] at hb
theorem wordsFault_3' {ws : List Int} (h : ¬ (64 : Int) < (ws.length : Int)) (hb : ws.any (fun w => !decide (0 ≤ w ∧ w ≤ 65535)) = true) : wordsFault ws = 3 := by
  unfold wordsFault; rw [if_neg (by omega), if_pos hb]
theorem wordsFault_0' {ws : List Int} (h : ¬ (64 : Int) < (ws.length : Int)) (hb : ws.any (fun w => !decide (0 ≤ w ∧ w ≤ 65535)) = false) : wordsFault ws = 0 := by
  unfold wordsFault; rw [if_neg (by omega), if_neg (by rw [hb]; exact Bool.false_ne_true)]
theorem idxF_any {α : Type} (p : α → Bool) (xs : List α) : decide (0 ≤ idxF p xs) = xs.any p := by
  unfold idxF
  cases h : xs.findIdx? p with
  | none =>
    have : xs.any p = false := by rw [List.any_eq_false]; intro x hx; have := List.findIdx?_eq_none_iff.1 h x hx; simp [this]
    rw [this]; rfl
  | some i =>
    have : xs.any p = true := by
      rw [List.any_eq_true]
      obtain ⟨hi, hp, _⟩ := List.findIdx?_eq_some_iff_getElem.1 h
      exact ⟨_, List.getElem_mem hi, hp⟩
    rw [this]; simp
abbrev placeIn (n : Nat) (at_ : Int) : Prop := 0 ≤ at_ ∧ at_ ≤ (n : Int) - 1
def putFault (n : Nat) (p : DPut) : Int := if placeIn n p.at_ then wordsFault p.words else 3
def diskFault (d : DDisk) : Int := if 60 < d.blocks.length ∨ 200 < d.cache.length then 2 else if firstF wordsFault d.blocks = 0 then firstF (putFault d.blocks.length) d.cache else firstF wordsFault d.blocks
theorem diskFault_2 {d : DDisk} (h : (60 : Int) < (d.blocks.length : Int)) : diskFault d = 2 := by unfold diskFault; rw [if_pos (by omega)]
theorem diskFault_2' {d : DDisk} (h : (200 : Int) < (d.cache.length : Int)) : diskFault d = 2 := by unfold diskFault; rw [if_pos (by omega)]
theorem diskFault_w {d : DDisk} {k : Nat} {x : List Int} (h : ¬ (60 : Int) < (d.blocks.length : Int)) (h' : ¬ (200 : Int) < (d.cache.length : Int)) (hx : d.blocks[k]? = some x) (hn : ¬ wordsFault x = 0) (ha : ∀ j y, j < k → d.blocks[j]? = some y → wordsFault y = 0) : diskFault d = wordsFault x := by
  unfold diskFault; rw [if_neg (by omega), firstF_some hx hn ha, if_neg hn]
theorem diskFault_p {d : DDisk} {k : Nat} {x : DPut} (h : ¬ (60 : Int) < (d.blocks.length : Int)) (h' : ¬ (200 : Int) < (d.cache.length : Int)) (hb : ∀ j y, j < d.blocks.length → d.blocks[j]? = some y → wordsFault y = 0) (hx : d.cache[k]? = some x) (hn : ¬ putFault d.blocks.length x = 0) (ha : ∀ j y, j < k → d.cache[j]? = some y → putFault d.blocks.length y = 0) : diskFault d = putFault d.blocks.length x := by
  unfold diskFault; rw [if_neg (by omega), firstF_none (fun j y hy => hb j y (List.getElem?_eq_some_iff.1 hy).1 hy), if_pos rfl, firstF_some hx hn ha]
theorem diskFault_0 {d : DDisk} (h : ¬ (60 : Int) < (d.blocks.length : Int)) (h' : ¬ (200 : Int) < (d.cache.length : Int)) (hb : ∀ j y, j < d.blocks.length → d.blocks[j]? = some y → wordsFault y = 0) (ha : ∀ j y, j < d.cache.length → d.cache[j]? = some y → putFault d.blocks.length y = 0) : diskFault d = 0 := by
  unfold diskFault; rw [if_neg (by omega), firstF_none (fun j y hy => hb j y (List.getElem?_eq_some_iff.1 hy).1 hy), if_pos rfl, firstF_none (fun j y hy => ha j y (List.getElem?_eq_some_iff.1 hy).1 hy)]
theorem putFault_3 {n : Nat} {p : DPut} (h : ¬ (0 ≤ p.at_ ∧ p.at_ ≤ (n : Int) - 1)) : putFault n p = 3 := by unfold putFault; rw [if_neg h]
theorem putFault_w {n : Nat} {p : DPut} (h : 0 ≤ p.at_ ∧ p.at_ ≤ (n : Int) - 1) : putFault n p = wordsFault p.words := by unfold putFault; rw [if_pos h]
theorem take_snoc {α : Type} {xs : List α} {k : Nat} {x : α} (h : xs[k]? = some x) : xs.take k ++ [x] = xs.take (k + 1) := by
  rw [List.take_add_one, h]; rfl
theorem diskFault_60 {d : DDisk} (h : diskFault d = 0) : d.blocks.length ≤ 60 ∧ d.cache.length ≤ 200 := by
  by_cases hc : 60 < d.blocks.length ∨ 200 < d.cache.length
  · unfold diskFault at h; rw [if_pos hc] at h; cases h
  · omega
/-! ### new disks, new kernels -/
def newDisk (n : Int) : RDisk := if 0 ≤ n ∧ n ≤ 60 then ⟨0, ⟨List.replicate n.toNat [], []⟩⟩ else ⟨3, ⟨[], []⟩⟩
theorem newDisk_ok {n : Int} (h : 0 ≤ n ∧ n ≤ 60) : newDisk n = ⟨0, ⟨List.replicate n.toNat [], []⟩⟩ := if_pos h
theorem newDisk_no {n : Int} (h : ¬ (0 ≤ n ∧ n ≤ 60)) : newDisk n = ⟨3, ⟨[], []⟩⟩ := if_neg h
def badKern (c : Int) : RKern := ⟨c, [], ⟨⟨[], []⟩, []⟩⟩
def newKern (n : Int) : RKern := if (newDisk n).code = 0 then ⟨0, [], ⟨(newDisk n).disk, []⟩⟩ else badKern (newDisk n).code
theorem newKern_ok {n : Int} (h : (newDisk n).code = 0) : newKern n = ⟨0, [], ⟨(newDisk n).disk, []⟩⟩ := if_pos h
theorem newKern_no {n : Int} (h : ¬ (newDisk n).code = 0) : newKern n = ⟨(newDisk n).code, [], ⟨⟨[], []⟩, []⟩⟩ := if_neg h
/-! ### extents -/
def isExt (n : Nat) (e : DExt) : Prop := (1 ≤ e.key ∧ e.key ≤ 9999) ∧ (0 ≤ e.frm ∧ e.frm ≤ n) ∧ (1 ≤ e.cnt ∧ e.cnt ≤ n) ∧ e.frm + e.cnt ≤ n
instance (n : Nat) (e : DExt) : Decidable (isExt n e) := by unfold isExt; infer_instance
def extsFault (n : Nat) : Int → List DExt → Int
  | _, [] => 0
  | lo, e :: es => if isExt n e then if e.frm < lo then 1 else extsFault n (e.frm + e.cnt) es else 3
def kernFault (k : DKern) : Int := if diskFault k.disk = 0 then if 8 < k.exts.length then 2 else extsFault k.disk.blocks.length 0 k.exts else diskFault k.disk
theorem kernFault_d {k : DKern} (h : ¬ diskFault k.disk = 0) : kernFault k = diskFault k.disk := if_neg h
theorem kernFault_2 {k : DKern} (h : diskFault k.disk = 0) (h2 : (8 : Int) < (k.exts.length : Int)) : kernFault k = 2 := by unfold kernFault; rw [if_pos h, if_pos (by omega)]
theorem kernFault_e {k : DKern} (h : diskFault k.disk = 0) (h2 : ¬ (8 : Int) < (k.exts.length : Int)) : kernFault k = extsFault k.disk.blocks.length 0 k.exts := by unfold kernFault; rw [if_pos h, if_neg (by omega)]
theorem extsFault_3 {n : Nat} {lo : Int} {es : List DExt} {k : Nat} {e : DExt} (he : es[k]? = some e) (h : ¬ isExt n e) : extsFault n lo (es.drop k) = 3 := by
  obtain ⟨hk, rfl⟩ := List.getElem?_eq_some_iff.1 he
  rw [List.drop_eq_getElem_cons hk, extsFault, if_neg h]
theorem extsFault_1 {n : Nat} {lo : Int} {es : List DExt} {k : Nat} {e : DExt} (he : es[k]? = some e) (h : isExt n e) (h2 : e.frm < lo) : extsFault n lo (es.drop k) = 1 := by
  obtain ⟨hk, rfl⟩ := List.getElem?_eq_some_iff.1 he
  rw [List.drop_eq_getElem_cons hk, extsFault, if_pos h, if_pos h2]
theorem extsFault_s {n : Nat} {lo : Int} {es : List DExt} {k : Nat} {e : DExt} (he : es[k]? = some e) (h : isExt n e) (h2 : ¬ e.frm < lo) : extsFault n lo (es.drop k) = extsFault n (e.frm + e.cnt) (es.drop (k + 1)) := by
  obtain ⟨hk, rfl⟩ := List.getElem?_eq_some_iff.1 he
  rw [List.drop_eq_getElem_cons hk, extsFault, if_pos h, if_neg h2]
theorem extsFault_0 {n : Nat} {lo : Int} {es : List DExt} {k : Nat} (h : es.length ≤ k) : extsFault n lo (es.drop k) = 0 := by rw [List.drop_of_length_le h]; rfl
theorem ext_at {n : Nat} {es : List DExt} {q j : Nat} {x e : DExt} (hx : es[q]? = some x) (h : isExt n x) (he : es[j]? = some e) (hj : j = q) : x.frm + x.cnt = e.frm + e.cnt ∧ isExt n e := by
  subst hj; rw [hx] at he; obtain rfl := Option.some.inj he; exact ⟨rfl, h⟩
theorem extsFault_ok {n : Nat} : ∀ {es : List DExt} {lo : Int}, extsFault n lo es = 0 → ∀ (j : Nat) e, es[j]? = some e → isExt n e
  | [], _, _, j, e, h => by simp at h
  | x :: es, lo, h, j, e, he => by
    unfold extsFault at h
    by_cases hx : isExt n x
    · rw [if_pos hx] at h
      split at h
      · cases h
      · cases j with
        | zero => simp at he; subst he; exact hx
        | succ j => exact extsFault_ok h j e (by simpa using he)
    · rw [if_neg hx] at h; cases h
theorem kernOk {k : DKern} (h : kernFault k = 0) : diskFault k.disk = 0 ∧ k.exts.length ≤ 8 ∧ (∀ (j : Nat) e, k.exts[j]? = some e → isExt k.disk.blocks.length e) ∧ k.disk.blocks.length ≤ 60 := by
  unfold kernFault at h
  by_cases hd : diskFault k.disk = 0
  · rw [if_pos hd] at h
    split at h
    · cases h
    · exact ⟨hd, by omega, extsFault_ok h, (diskFault_60 hd).1⟩
  · rw [if_neg hd] at h; exact absurd h hd
/-! ### owners -/
abbrev owns (a : Int) (e : DExt) : Prop := e.frm ≤ a ∧ a ≤ e.frm + e.cnt - 1
def ownKey (a : Int) (es : List DExt) : Int := match es.find? (fun e => decide (owns a e)) with | some e => e.key | none => 0
theorem ownKey_some {a : Int} {es : List DExt} {k : Nat} {e : DExt} (he : es[k]? = some e) (h : owns a e) (ha : ∀ j x, j < k → es[j]? = some x → ¬ owns a x) : ownKey a es = e.key := by
  have : es.find? (fun e => decide (owns a e)) = some e := by
    obtain ⟨hk, rfl⟩ := List.getElem?_eq_some_iff.1 he
    rw [List.find?_eq_some_iff_getElem]
    exact ⟨decide_eq_true h, k, hk, rfl, fun j hj => by simp only [Bool.not_eq_true', decide_eq_false_iff_not]; exact ha j _ hj (List.getElem?_eq_getElem (by omega))⟩
  unfold ownKey; rw [this]
theorem ownKey_none {a : Int} {es : List DExt} (ha : ∀ (j : Nat) x, es[j]? = some x → ¬ owns a x) : ownKey a es = 0 := by
  have : es.find? (fun e => decide (owns a e)) = none := by
    rw [List.find?_eq_none]
    intro x hx
    obtain ⟨j, hj, rfl⟩ := List.mem_iff_getElem.1 hx
    simp only [decide_eq_true_eq]
    exact ha j _ (List.getElem?_eq_getElem hj)
  unfold ownKey; rw [this]
def ownerOf (k : DKern) (a : Int) : RInt := if kernFault k = 0 then if placeIn k.disk.blocks.length a then if ownKey a k.exts = 0 then ⟨4, 0⟩ else ⟨0, ownKey a k.exts⟩ else ⟨3, 0⟩ else ⟨kernFault k, 0⟩
theorem ownerOf_f {k : DKern} {a : Int} (h : ¬ kernFault k = 0) : ownerOf k a = ⟨kernFault k, 0⟩ := if_neg h
theorem ownerOf_3 {k : DKern} {a : Int} (h : kernFault k = 0) (h2 : ¬ placeIn k.disk.blocks.length a) : ownerOf k a = ⟨3, 0⟩ := by unfold ownerOf; rw [if_pos h, if_neg h2]
theorem ownerOf_4 {k : DKern} {a : Int} (h : kernFault k = 0) (h2 : placeIn k.disk.blocks.length a) (h3 : ownKey a k.exts = 0) : ownerOf k a = ⟨4, 0⟩ := by unfold ownerOf; rw [if_pos h, if_pos h2, if_pos h3]
theorem ownerOf_0 {k : DKern} {a : Int} (h : kernFault k = 0) (h2 : placeIn k.disk.blocks.length a) (h3 : ¬ ownKey a k.exts = 0) : ownerOf k a = ⟨0, ownKey a k.exts⟩ := by unfold ownerOf; rw [if_pos h, if_pos h2, if_neg h3]
theorem ownerOf_hit {k : DKern} {a : Int} {q : Nat} {e : DExt} (h : kernFault k = 0) (h2 : placeIn k.disk.blocks.length a) (he : k.exts[q]? = some e) (ho : owns a e) (ha : ∀ j x, j < q → k.exts[j]? = some x → ¬ owns a x) : ownerOf k a = ⟨0, e.key⟩ := by
  have hk := ownKey_some he ho ha
  have hx : isExt _ e := (kernOk h).2.2.1 q e he
  unfold isExt at hx
  rw [ownerOf_0 h h2 (by rw [hk]; omega), hk]
theorem ownerOf_none {k : DKern} {a : Int} {q : Nat} (h : kernFault k = 0) (h2 : placeIn k.disk.blocks.length a) (hq : k.exts.length ≤ q) (ha : ∀ j x, j < q → k.exts[j]? = some x → ¬ owns a x) : ownerOf k a = ⟨4, 0⟩ :=
  ownerOf_4 h h2 (ownKey_none fun j x hx => ha j x (by have := (List.getElem?_eq_some_iff.1 hx).1; omega) hx)
/-! ### puts -/
def keepN (all : Bool) (ks : List Bool) (ps : List DPut) (bs : List (List Int)) : Nat → List (List Int)
  | 0 => bs
  | k + 1 => match ps[k]? with
    | some p => if all || ks.getD k false then (keepN all ks ps bs k).set p.at_.toNat p.words else keepN all ks ps bs k
    | none => keepN all ks ps bs k
theorem keepN_len {all : Bool} {ks : List Bool} {ps : List DPut} {bs : List (List Int)} : ∀ k, (keepN all ks ps bs k).length = bs.length
  | 0 => rfl
  | k + 1 => by
    unfold keepN
    split
    · split
      · rw [List.length_set, keepN_len k]
      · exact keepN_len k
    · exact keepN_len k
theorem keepN_on {all : Bool} {ks : List Bool} {ps : List DPut} {bs : List (List Int)} {k : Nat} {p : DPut} (hp : ps[k]? = some p) (h : (all || ks.getD k false) = true) : (keepN all ks ps bs k).set p.at_.toNat p.words = keepN all ks ps bs (k + 1) := by
  conv => rhs; unfold keepN
  simp only [hp, h, if_true]
theorem keepN_off {all : Bool} {ks : List Bool} {ps : List DPut} {bs : List (List Int)} {k : Nat} {p : DPut} (hp : ps[k]? = some p) (h : (all || ks.getD k false) = false) : keepN all ks ps bs k = keepN all ks ps bs (k + 1) := by
  conv => rhs; unfold keepN
  simp only [hp, h, Bool.false_eq_true, if_false]
theorem firstF_all {α : Type} {f : α → Int} : ∀ {xs : List α}, firstF f xs = 0 → ∀ x, x ∈ xs → f x = 0
  | [], _, x, hx => by cases hx
  | y :: xs, h, x, hx => by
    unfold firstF at h
    by_cases hy : f y = 0
    · rw [if_pos hy] at h
      rcases List.mem_cons.1 hx with rfl | hx
      · exact hy
      · exact firstF_all h x hx
    · rw [if_neg hy] at h; exact absurd h hy
theorem diskOk {d : DDisk} (h : diskFault d = 0) : d.blocks.length ≤ 60 ∧ d.cache.length ≤ 200 ∧ (∀ b, b ∈ d.blocks → wordsFault b = 0) ∧ ∀ p, p ∈ d.cache → placeIn d.blocks.length p.at_ ∧ wordsFault p.words = 0 := by
  have h1 := diskFault_60 h
  unfold diskFault at h
  rw [if_neg (by omega)] at h
  by_cases hb : firstF wordsFault d.blocks = 0
  · rw [if_pos hb] at h
    refine ⟨h1.1, h1.2, firstF_all hb, fun p hp => ?_⟩
    have := firstF_all h p hp
    unfold putFault at this
    by_cases hpl : placeIn d.blocks.length p.at_
    · rw [if_pos hpl] at this; exact ⟨hpl, this⟩
    · rw [if_neg hpl] at this; cases this
  · rw [if_neg hb] at h; exact absurd h hb
theorem words_64 {ws : List Int} (h : wordsFault ws = 0) : ws.length ≤ 64 := by
  by_cases hc : 64 < ws.length
  · unfold wordsFault at h; rw [if_pos hc] at h; cases h
  · omega
theorem putAt_ok {d : DDisk} (h : diskFault d = 0) {k : Nat} {p : DPut} (hp : d.cache[k]? = some p) : 0 ≤ p.at_ ∧ p.at_ ≤ (d.blocks.length : Int) - 1 := ((diskOk h).2.2.2 p (List.mem_of_getElem? hp)).1
def badDisk (c : Int) : RDisk := ⟨c, ⟨[], []⟩⟩
def putBlock (d : DDisk) (a : Int) (ws : List Int) : RDisk :=
  if diskFault d = 0 then if placeIn d.blocks.length a then if wordsFault ws = 0 then if 200 ≤ d.cache.length then badDisk 2 else ⟨0, ⟨d.blocks, d.cache ++ [⟨a, ws⟩]⟩⟩ else badDisk (wordsFault ws) else badDisk 3 else badDisk (diskFault d)
def flushDisk (d : DDisk) : RDisk := if diskFault d = 0 then ⟨0, ⟨keepN true [] d.cache d.blocks d.cache.length, []⟩⟩ else badDisk (diskFault d)
def crashDisk (d : DDisk) (ks : List Bool) : RDisk := if diskFault d = 0 then ⟨0, ⟨keepN false ks d.cache d.blocks d.cache.length, []⟩⟩ else badDisk (diskFault d)
theorem putBlock_f {d : DDisk} {a : Int} {ws : List Int} (h : ¬ diskFault d = 0) : putBlock d a ws = badDisk (diskFault d) := if_neg h
theorem putBlock_3 {d : DDisk} {a : Int} {ws : List Int} (h : diskFault d = 0) (h2 : ¬ placeIn d.blocks.length a) : putBlock d a ws = badDisk 3 := by unfold putBlock; rw [if_pos h, if_neg h2]
theorem putBlock_w {d : DDisk} {a : Int} {ws : List Int} (h : diskFault d = 0) (h2 : placeIn d.blocks.length a) (h3 : ¬ wordsFault ws = 0) : putBlock d a ws = badDisk (wordsFault ws) := by unfold putBlock; rw [if_pos h, if_pos h2, if_neg h3]
theorem putBlock_2 {d : DDisk} {a : Int} {ws : List Int} (h : diskFault d = 0) (h2 : placeIn d.blocks.length a) (h3 : wordsFault ws = 0) (h4 : 200 ≤ d.cache.length) : putBlock d a ws = badDisk 2 := by unfold putBlock; rw [if_pos h, if_pos h2, if_pos h3, if_pos h4]
theorem putBlock_0 {d : DDisk} {a : Int} {ws : List Int} (h : diskFault d = 0) (h2 : placeIn d.blocks.length a) (h3 : wordsFault ws = 0) (h4 : ¬ 200 ≤ d.cache.length) : putBlock d a ws = ⟨0, ⟨d.blocks, d.cache ++ [⟨a, ws⟩]⟩⟩ := by unfold putBlock; rw [if_pos h, if_pos h2, if_pos h3, if_neg h4]
def blockFault (d : DDisk) (a : Int) : Int := if diskFault d = 0 then if placeIn d.blocks.length a then 0 else 3 else diskFault d
theorem blockFault_f {d : DDisk} {a : Int} (h : ¬ diskFault d = 0) : blockFault d a = diskFault d := if_neg h
theorem blockFault_3 {d : DDisk} {a : Int} (h : diskFault d = 0) (h2 : ¬ placeIn d.blocks.length a) : blockFault d a = 3 := by unfold blockFault; rw [if_pos h, if_neg h2]
theorem blockFault_0 {d : DDisk} {a : Int} (h : diskFault d = 0) (h2 : placeIn d.blocks.length a) : blockFault d a = 0 := by unfold blockFault; rw [if_pos h, if_pos h2]
theorem blockFault_ok {d : DDisk} {a : Int} (h : blockFault d a = 0) : diskFault d = 0 ∧ placeIn d.blocks.length a := by
  unfold blockFault at h
  by_cases h1 : diskFault d = 0
  · rw [if_pos h1] at h
    by_cases h2 : placeIn d.blocks.length a
    · exact ⟨h1, h2⟩
    · rw [if_neg h2] at h; cases h
  · rw [if_neg h1] at h; exact absurd h h1
theorem putBlock_b {d : DDisk} {a : Int} {ws : List Int} (h : ¬ blockFault d a = 0) : putBlock d a ws = badDisk (blockFault d a) := by
  by_cases h1 : diskFault d = 0
  · by_cases h2 : placeIn d.blocks.length a
    · exact absurd (blockFault_0 h1 h2) h
    · rw [putBlock_3 h1 h2, blockFault_3 h1 h2]
  · rw [putBlock_f h1, blockFault_f h1]
theorem flushDisk_f {d : DDisk} (h : ¬ diskFault d = 0) : flushDisk d = badDisk (diskFault d) := if_neg h
theorem flushDisk_0 {d : DDisk} (h : diskFault d = 0) : flushDisk d = ⟨0, ⟨keepN true [] d.cache d.blocks d.cache.length, []⟩⟩ := if_pos h
theorem crashDisk_f {d : DDisk} {ks : List Bool} (h : ¬ diskFault d = 0) : crashDisk d ks = badDisk (diskFault d) := if_neg h
theorem crashDisk_0 {d : DDisk} {ks : List Bool} (h : diskFault d = 0) : crashDisk d ks = ⟨0, ⟨keepN false ks d.cache d.blocks d.cache.length, []⟩⟩ := if_pos h
theorem getD_out {ks : List Bool} {k : Nat} (h : ¬ (k : Int) < (ks.length : Int)) : ks.getD k false = false := by
  rw [List.getD_eq_getElem?_getD, List.getElem?_eq_none (by omega)]; rfl
theorem getD_in {ks : List Bool} {k : Nat} {b : Bool} (h : ks[k]? = some b) : ks.getD k false = b := by
  rw [List.getD_eq_getElem?_getD, h]; rfl
theorem keepN_nil {ps : List DPut} {bs : List (List Int)} {ks : List Bool} {all : Bool} : bs = keepN all ks ps bs 0 := rfl
theorem keepN_64 {all : Bool} {ks : List Bool} {ps : List DPut} {bs : List (List Int)} (hb : ∀ b, b ∈ bs → b.length ≤ 64) (hp : ∀ p, p ∈ ps → p.words.length ≤ 64) : ∀ k b, b ∈ keepN all ks ps bs k → b.length ≤ 64
  | 0, b, h => hb b h
  | k + 1, b, h => by
    unfold keepN at h
    split at h
    · rename_i p hpk
      split at h
      · rcases List.mem_or_eq_of_mem_set h with h | rfl
        · exact keepN_64 hb hp k b h
        · exact hp p (List.mem_of_getElem? hpk)
      · exact keepN_64 hb hp k b h
    · exact keepN_64 hb hp k b h
def hasKey (key : Int) (es : List DExt) : Bool := es.any (fun e => decide (e.key = key))
theorem hasKey_some {key : Int} {es : List DExt} {q : Nat} {e : DExt} (he : es[q]? = some e) (h : e.key = key) : hasKey key es = true := by
  unfold hasKey; rw [List.any_eq_true]; exact ⟨e, List.mem_of_getElem? he, decide_eq_true h⟩
theorem hasKey_none {key : Int} {es : List DExt} {q : Nat} (hq : es.length ≤ q) (h : ∀ j e, j < q → es[j]? = some e → ¬ e.key = key) : hasKey key es = false := by
  unfold hasKey; rw [List.any_eq_false]
  intro e he
  obtain ⟨j, hj, rfl⟩ := List.mem_iff_getElem.1 he
  simp only [decide_eq_true_eq]
  exact h j _ (by omega) (List.getElem?_eq_getElem hj)
theorem hasKey_not {key : Int} {es : List DExt} (h : (!es.any fun x => decide (x.key = key)) = true) : hasKey key es = false := by unfold hasKey; simpa using h
theorem hasKey_yes {key : Int} {es : List DExt} (h : (!es.any fun x => decide (x.key = key)) = false) : hasKey key es = true := by unfold hasKey; simpa using h
def flushKern (k : DKern) (key : Int) : RKern := if kernFault k = 0 then if hasKey key k.exts = true then ⟨0, [], ⟨⟨keepN true [] k.disk.cache k.disk.blocks k.disk.cache.length, []⟩, k.exts⟩⟩ else badKern 6 else badKern (kernFault k)
theorem flushKern_f {k : DKern} {key : Int} (h : ¬ kernFault k = 0) : flushKern k key = badKern (kernFault k) := if_neg h
theorem flushKern_6 {k : DKern} {key : Int} (h : kernFault k = 0) (h2 : hasKey key k.exts = false) : flushKern k key = badKern 6 := by unfold flushKern; rw [if_pos h, if_neg (by rw [h2]; exact Bool.false_ne_true)]
theorem flushKern_0 {k : DKern} {key : Int} (h : kernFault k = 0) (h2 : hasKey key k.exts = true) : flushKern k key = ⟨0, [], ⟨⟨keepN true [] k.disk.cache k.disk.blocks k.disk.cache.length, []⟩, k.exts⟩⟩ := by unfold flushKern; rw [if_pos h, if_pos h2]
/-! ### writing by a key -/
def mayFault (k : DKern) (key a : Int) : Int := if (ownerOf k a).code = 0 then if (ownerOf k a).val = key then 0 else 6 else (ownerOf k a).code
theorem mayFault_n {k : DKern} {key a : Int} (h : ¬ (ownerOf k a).code = 0) : mayFault k key a = (ownerOf k a).code := if_neg h
theorem mayFault_6 {k : DKern} {key a : Int} (h : (ownerOf k a).code = 0) (h2 : ¬ (ownerOf k a).val = key) : mayFault k key a = 6 := by unfold mayFault; rw [if_pos h, if_neg h2]
theorem mayFault_0 {k : DKern} {key a : Int} (h : (ownerOf k a).code = 0) (h2 : (ownerOf k a).val = key) : mayFault k key a = 0 := by unfold mayFault; rw [if_pos h, if_pos h2]
theorem mayFault_k {k : DKern} {key a : Int} (h : (ownerOf k a).code = 0) (h2 : (ownerOf k a).val = key) : mayFault k key a = (ownerOf k a).code := by rw [mayFault_0 h h2, h]
def writeKern (k : DKern) (key a : Int) (ws : List Int) : RKern := if mayFault k key a = 0 then if (putBlock k.disk a ws).code = 0 then ⟨0, [], ⟨(putBlock k.disk a ws).disk, k.exts⟩⟩ else badKern (putBlock k.disk a ws).code else badKern (mayFault k key a)
theorem writeKern_f {k : DKern} {key a : Int} {ws : List Int} (h : ¬ mayFault k key a = 0) : writeKern k key a ws = badKern (mayFault k key a) := if_neg h
theorem writeKern_p {k : DKern} {key a : Int} {ws : List Int} (h : mayFault k key a = 0) (h2 : ¬ (putBlock k.disk a ws).code = 0) : writeKern k key a ws = badKern (putBlock k.disk a ws).code := by unfold writeKern; rw [if_pos h, if_neg h2]
theorem writeKern_0 {k : DKern} {key a : Int} {ws : List Int} (h : mayFault k key a = 0) (h2 : (putBlock k.disk a ws).code = 0) : writeKern k key a ws = ⟨0, [], ⟨(putBlock k.disk a ws).disk, k.exts⟩⟩ := by unfold writeKern; rw [if_pos h, if_pos h2]
/-! ### revoking -/
def findFrm (a : Int) (es : List DExt) : Option Nat := es.findIdx? (fun e => decide (e.frm = a))
def revoke (k : DKern) (a key : Int) : RKern :=
  if kernFault k = 0 then match findFrm a k.exts with
    | none => badKern 4
    | some i => match k.exts[i]? with
      | some e => if e.key = key then ⟨0, [], ⟨k.disk, k.exts.eraseIdx i⟩⟩ else badKern 6
      | none => badKern 4
  else badKern (kernFault k)
theorem findFrm_some {a : Int} {es : List DExt} {q : Nat} {e : DExt} (he : es[q]? = some e) (h : e.frm = a) (ha : ∀ j x, j < q → es[j]? = some x → ¬ x.frm = a) : findFrm a es = some q := by
  obtain ⟨hk, rfl⟩ := List.getElem?_eq_some_iff.1 he
  unfold findFrm
  rw [List.findIdx?_eq_some_iff_getElem]
  exact ⟨hk, decide_eq_true h, fun j hj => by simp only [decide_eq_true_eq]; exact ha j _ hj (List.getElem?_eq_getElem (by omega))⟩
theorem findFrm_none {a : Int} {es : List DExt} {q : Nat} (hq : es.length ≤ q) (ha : ∀ j x, j < q → es[j]? = some x → ¬ x.frm = a) : findFrm a es = none := by
  unfold findFrm
  rw [List.findIdx?_eq_none_iff]
  intro x hx
  obtain ⟨j, hj, rfl⟩ := List.mem_iff_getElem.1 hx
  simp only [decide_eq_false_iff_not]
  exact ha j _ (by omega) (List.getElem?_eq_getElem hj)
theorem revoke_f {k : DKern} {a key : Int} (h : ¬ kernFault k = 0) : revoke k a key = badKern (kernFault k) := if_neg h
theorem revoke_4 {k : DKern} {a key : Int} (h : kernFault k = 0) (h2 : findFrm a k.exts = none) : revoke k a key = badKern 4 := by unfold revoke; rw [if_pos h, h2]
theorem revoke_6 {k : DKern} {a key : Int} {i : Nat} {e : DExt} (h : kernFault k = 0) (h2 : findFrm a k.exts = some i) (he : k.exts[i]? = some e) (hk : ¬ e.key = key) : revoke k a key = badKern 6 := by unfold revoke; rw [if_pos h, h2]; simp only [he, if_neg hk]
theorem revoke_0 {k : DKern} {a key : Int} {i : Nat} {e : DExt} (h : kernFault k = 0) (h2 : findFrm a k.exts = some i) (he : k.exts[i]? = some e) (hk : e.key = key) : revoke k a key = ⟨0, [], ⟨k.disk, k.exts.eraseIdx i⟩⟩ := by unfold revoke; rw [if_pos h, h2]; simp only [he, if_pos hk]
theorem idx_frm {a : Int} {es : List DExt} (h : ¬ idxF (fun e => decide (e.frm = a)) es < 0) : ∃ i e, idxF (fun e => decide (e.frm = a)) es = ((i : Nat) : Int) ∧ findFrm a es = some i ∧ es[i]? = some e ∧ i < es.length := by
  unfold idxF at h ⊢
  cases hf : es.findIdx? (fun e => decide (e.frm = a)) with
  | none => rw [hf] at h; exact absurd (by decide : (-1 : Int) < 0) h
  | some i =>
    obtain ⟨hi, _, _⟩ := List.findIdx?_eq_some_iff_getElem.1 hf
    exact ⟨i, es[i], rfl, hf, List.getElem?_eq_getElem hi, hi⟩
theorem idx_none {a : Int} {es : List DExt} (h : idxF (fun e => decide (e.frm = a)) es < 0) : findFrm a es = none := by
  unfold idxF at h
  unfold findFrm
  cases hf : es.findIdx? (fun e => decide (e.frm = a)) with
  | none => rfl
  | some i => rw [hf] at h; simp only at h; omega
end Go.Proofs.YtbcdcakcmdcafaaGreat

/- What is proved: an inode read back from its words, in plain Lean. No condition. -/
import Derived.Test.YtoaebcjjfojfeaaBase1
import Derived.Lib.SplitLaws
import Derived.Lib.Join
import Derived.Test.YtoaebcjjfojfeaaBase0
namespace Go.Proofs.Ytoaebcjjfojfeaa
open Go Go.RowKit
set_option linter.unusedVariables false
set_option linter.unusedSimpArgs false
theorem ro_hl {α : Type} {K : Kd α} {e by_ : Nat} {w : World} {F : Bs} {xs : List α} {A : Option Addr} {n c : Nat} (h : (kslice e by_ K).ro w F xs [.slice A n c]) : n = xs.length ∧ xs.length ≤ c ∧ c ≤ 9223372036854775807 := by
  obtain ⟨A', c', hv, h1, h2, _, _⟩ := ro_form h
  injection hv with e1 e2 e3
  subst e3
  exact ⟨e2, h1, h2⟩
theorem subL_end {α : Type} (xs : List α) (a : Nat) : subL xs a xs.length = xs.drop a := by simp [subL]
def Vd (ws : List Int) (y : DInode) : Prop := inodeFault y = 0 ∧ packI y = ws
/-- What has been read is the inode of these words, if they are an inode's. -/
def Dec (ws : List Int) (x : DInode) (ok : Bool) : Prop := ∀ y, Vd ws y → ok = true ∧ x = y
def packL (es : List DEnt) : List Int := (es.map packE).flatten
theorem packL_cons (e : DEnt) (es : List DEnt) : packL (e :: es) = e.ino :: (e.name.size : Int) :: (e.name.data.toList.map byteI ++ packL es) := by simp [packL, packE]
theorem vd_file {ws : List Int} {y : DInode} (h : Vd ws y) (hk : ¬ y.kind = 2) : ws = y.kind :: y.links :: y.size :: y.blocks ∧ y.ents = [] := by
  refine ⟨by rw [← h.2, packI, if_neg hk]; rfl, ?_⟩
  have h1 := h.1
  unfold inodeFault at h1
  split at h1
  · split at h1
    · exact absurd h1 (by decide)
    · rename_i h2
      refine List.length_eq_zero_iff.1 (Classical.byContradiction fun h3 => h2 (.inr ⟨hk, h3⟩))
  · exact absurd h1 (by decide)
theorem vd_dir {ws : List Int} {y : DInode} (h : Vd ws y) (hk : y.kind = 2) : ws = y.kind :: y.links :: y.size :: (y.ents.length : Int) :: packL y.ents ∧ y.blocks = [] := by
  have hb : y.blocks = [] := by
    have h1 := h.1
    unfold inodeFault at h1
    split at h1
    · split at h1
      · exact absurd h1 (by decide)
      · rename_i h2
        exact List.length_eq_zero_iff.1 (Classical.byContradiction fun h3 => h2 (.inl ⟨by omega, fun hh => h3 hh.2.2⟩))
    · exact absurd h1 (by decide)
  refine ⟨?_, hb⟩
  rw [← h.2, packI, if_pos hk, packTo, hb, List.take_length]
  rfl
theorem vd_head {ws : List Int} {y : DInode} (h : Vd ws y) : ws[0]? = some y.kind ∧ ws[1]? = some y.links ∧ ws[2]? = some y.size := by
  by_cases hk : y.kind = 2
  · have := (vd_dir h hk).1; subst this; exact ⟨rfl, rfl, rfl⟩
  · have := (vd_file h hk).1; subst this; exact ⟨rfl, rfl, rfl⟩
theorem vd_len {ws : List Int} {y : DInode} (h : Vd ws y) : 3 ≤ ws.length := by
  have := (List.getElem?_eq_some_iff.1 (vd_head h).2.2).1
  omega
theorem dec_short {ws : List Int} (h : (ws.length : Int) < 3) {x : DInode} {ok : Bool} : Dec ws x ok := fun y hy => absurd (vd_len hy) (by omega)
theorem dec_file {ws : List Int} {k l s : Int} (h0 : ws[0]? = some k) (h1 : ws[1]? = some l) (h2 : ws[2]? = some s) (hk : ¬ k = 2) : Dec ws ⟨k, l, s, ws.drop 3, []⟩ true := fun y hy => by
  obtain ⟨g0, g1, g2⟩ := vd_head hy
  rw [h0] at g0; rw [h1] at g1; rw [h2] at g2
  obtain rfl := Option.some.inj g0; obtain rfl := Option.some.inj g1; obtain rfl := Option.some.inj g2
  obtain ⟨hw, he⟩ := vd_file hy hk
  refine ⟨rfl, ?_⟩
  cases y with
  | mk a b c d e =>
    simp only at hw he
    subst he
    rw [hw]
    rfl
theorem dec_e {ws : List Int} {k : Int} (h0 : ws[0]? = some k) (hk : k = 2) (hl : ws.length ≤ 3) {x : DInode} {ok : Bool} : Dec ws x ok := fun y hy => by
  have g0 := (vd_head hy).1
  rw [h0] at g0
  obtain rfl := Option.some.inj g0
  have := (vd_dir hy hk).1
  rw [this] at hl
  simp at hl
def RI (y : DInode) (E : List DEnt) (q : List Int) : Prop := E.length ≤ y.ents.length ∧ E = y.ents.take E.length ∧ q = packL (y.ents.drop E.length)
theorem ri_0 {ws : List Int} {k : Int} (h0 : ws[0]? = some k) (hk : k = 2) : ∀ y, Vd ws y → RI y [] (ws.drop 4) := fun y hy => by
  have g0 := (vd_head hy).1
  rw [h0] at g0
  obtain rfl := Option.some.inj g0
  have := (vd_dir hy hk).1
  exact ⟨Nat.zero_le _, rfl, by rw [this]; rfl⟩
theorem ri_e {y : DInode} {E : List DEnt} {q : List Int} (h : RI y E q) (hq : 0 < q.length) : ∃ e, y.ents[E.length]? = some e ∧ q = e.ino :: (e.name.size : Int) :: (e.name.data.toList.map byteI ++ packL (y.ents.drop (E.length + 1))) := by
  obtain ⟨h1, h2, h3⟩ := h
  rcases Nat.lt_or_ge E.length y.ents.length with hl | hl
  · refine ⟨y.ents[E.length], List.getElem?_eq_getElem hl, ?_⟩
    rw [h3, List.drop_eq_getElem_cons hl, packL_cons]
  · rw [List.drop_eq_nil_of_le hl] at h3
    rw [h3] at hq
    simp [packL] at hq
theorem ri_bad {ws : List Int} {E : List DEnt} {q : List Int} (H : ∀ y, Vd ws y → RI y E q) (hq : 0 < q.length) (hb : (q.length : Int) < 2 ∨ ∃ v, q[1]? = some v ∧ (q.length : Int) - 2 < v) {x : DInode} {ok : Bool} : Dec ws x ok := fun y hy => by
  obtain ⟨e, he, hq2⟩ := ri_e (H y hy) hq
  exfalso
  have hs := str_len e.name
  rcases hb with hb | ⟨v, hv, hb⟩
  · rw [hq2] at hb; simp at hb; omega
  · rw [hq2] at hv hb
    simp at hv hb
    omega
theorem ri_byte {ws : List Int} {E : List DEnt} {q : List Int} (H : ∀ y, Vd ws y → RI y E q) (hq : 0 < q.length) {n v : Int} {j : Nat} (hn : q[1]? = some n) (hj : (j : Int) < n) (hv : q[2 + j]? = some v) : ∀ y, Vd ws y → ∃ e b, y.ents[E.length]? = some e ∧ (e.name.size : Int) = n ∧ e.name.data.toList[j]? = some b ∧ v = (b.toNat : Int) := fun y hy => by
  obtain ⟨e, he, hq2⟩ := ri_e (H y hy) hq
  have hs := str_len e.name
  rw [hq2] at hn hv
  simp at hn
  rw [show 2 + j = (j + 1) + 1 by omega] at hv
  simp only [List.getElem?_cons_succ] at hv
  rw [List.getElem?_append_left (by rw [List.length_map]; omega), List.getElem?_map] at hv
  cases hb : e.name.data.toList[j]? with
  | none => rw [hb] at hv; simp at hv
  | some b => rw [hb] at hv; exact ⟨e, b, he, hn, hb, (Option.some.inj hv).symm⟩
theorem ri_255 {ws : List Int} {E : List DEnt} {q : List Int} (H : ∀ y, Vd ws y → RI y E q) (hq : 0 < q.length) {n v : Int} {j : Nat} (hn : q[1]? = some n) (hj : (j : Int) < n) (hv : q[2 + j]? = some v) (h : 255 < v) {x : DInode} {ok : Bool} : Dec ws x ok := fun y hy => by
  obtain ⟨e, b, _, _, _, rfl⟩ := ri_byte H hq hn hj hv y hy
  have := UInt8.toNat_lt b
  omega
theorem mbyte_nat (b : UInt8) : mbyte (b.toNat : Int) = b := by
  have := UInt8.toNat_lt b
  unfold mbyte
  rw [show ((b.toNat : Int) % 256).toNat = b.toNat by omega]
  simp
/-- Of the name so far. -/
def NI (ws : List Int) (E : List DEnt) (nm : ByteArray) (j : Nat) : Prop := ∀ y, Vd ws y → ∃ e, y.ents[E.length]? = some e ∧ nm = bstr (e.name.data.toList.take j)
theorem ni_0 {ws : List Int} {E : List DEnt} {q : List Int} (H : ∀ y, Vd ws y → RI y E q) (hq : 0 < q.length) : NI ws E ⟨#[]⟩ 0 := fun y hy => by
  obtain ⟨e, he, _⟩ := ri_e (H y hy) hq
  exact ⟨e, he, rfl⟩
theorem ni_s {ws : List Int} {E : List DEnt} {q : List Int} {nm : ByteArray} (H : ∀ y, Vd ws y → RI y E q) (hq : 0 < q.length) {n v : Int} {j : Nat} (hn : q[1]? = some n) (hj : (j : Int) < n) (hv : q[2 + j]? = some v) (h : NI ws E nm j) : NI ws E (nm ++ bstr [mbyte v]) (j + 1) := fun y hy => by
  obtain ⟨e, b, he, _, hb, rfl⟩ := ri_byte H hq hn hj hv y hy
  obtain ⟨e', he', hnm⟩ := h y hy
  rw [he] at he'
  obtain rfl := Option.some.inj he'
  refine ⟨e, he, ?_⟩
  rw [hnm, mbyte_nat, List.take_add_one, hb]
  apply ByteArray.ext
  simp [bstr]
theorem bstr_data' (s : ByteArray) : bstr s.data.toList = s := by cases s; simp [bstr]
theorem ri_s {ws : List Int} {E : List DEnt} {q : List Int} {nm : ByteArray} (H : ∀ y, Vd ws y → RI y E q) (hq : 0 < q.length) {n i : Int} {j m : Nat} (hi : q[0]? = some i) (hn : q[1]? = some n) (hj : ∀ y, Vd ws y → n ≤ (j : Int)) (hm : (m : Int) = 2 + n) (h : NI ws E nm j) : ∀ y, Vd ws y → RI y (E ++ [⟨nm, i⟩]) (q.drop m) := fun y hy => by
  obtain ⟨e, he, hq2⟩ := ri_e (H y hy) hq
  obtain ⟨h1, h2, h3⟩ := H y hy
  obtain ⟨e', he', hnm⟩ := h y hy
  rw [he] at he'
  obtain rfl := Option.some.inj he'
  have hs := str_len e.name
  have hjj := hj y hy
  rw [hq2] at hi hn
  simp at hi hn
  have e1 : (⟨nm, i⟩ : DEnt) = e := by
    rw [hnm, List.take_of_length_le (by omega), bstr_data', ← hi]
  have hel := (List.getElem?_eq_some_iff.1 he).1
  refine ⟨by simp; omega, ?_, ?_⟩
  · rw [e1, List.length_append, List.length_cons, List.length_nil, List.take_add_one, he, ← h2]
    rfl
  · rw [List.length_append, List.length_cons, List.length_nil, hq2, show m = (e.name.size + 1) + 1 by omega]
    simp only [List.drop_succ_cons]
    rw [List.drop_append_of_le_length (by rw [List.length_map]; omega), List.drop_of_length_le (by rw [List.length_map]; omega)]
    rfl
theorem ri_end {ws : List Int} {E : List DEnt} {q : List Int} {k l s : Int} (h0 : ws[0]? = some k) (h1 : ws[1]? = some l) (h2 : ws[2]? = some s) (hk : k = 2) (H : ∀ y, Vd ws y → RI y E q) (hq : q.length = 0) : Dec ws ⟨k, l, s, [], E⟩ true := fun y hy => by
  obtain ⟨g0, g1, g2⟩ := vd_head hy
  rw [h0] at g0; rw [h1] at g1; rw [h2] at g2
  obtain rfl := Option.some.inj g0; obtain rfl := Option.some.inj g1; obtain rfl := Option.some.inj g2
  obtain ⟨hw, hb⟩ := vd_dir hy hk
  obtain ⟨r1, r2, r3⟩ := H y hy
  have hl : y.ents.length ≤ E.length := Classical.byContradiction fun hn => by
    rw [List.drop_eq_getElem_cons (by omega), packL_cons] at r3
    rw [r3] at hq
    simp at hq
  refine ⟨rfl, ?_⟩
  rw [List.take_of_length_le hl] at r2
  cases y with
  | mk a b c d e => simp only at hb r2; subst hb; subst r2; rfl
/-- By the count that the words tell. -/
theorem ri_cnt {ws : List Int} {E : List DEnt} {q : List Int} {k l s n : Int} (h0 : ws[0]? = some k) (h1 : ws[1]? = some l) (h2 : ws[2]? = some s) (hk : k = 2) (h3 : (ws[3]?).getD 0 ≤ (E.length : Int)) (H : ∀ y, Vd ws y → RI y E q) : Dec ws ⟨k, l, s, [], E⟩ true := fun y hy => by
  obtain ⟨g0, g1, g2⟩ := vd_head hy
  rw [h0] at g0; rw [h1] at g1; rw [h2] at g2
  obtain rfl := Option.some.inj g0; obtain rfl := Option.some.inj g1; obtain rfl := Option.some.inj g2
  obtain ⟨hw, hb⟩ := vd_dir hy hk
  obtain ⟨r1, r2, r3⟩ := H y hy
  have hl : y.ents.length ≤ E.length := by rw [hw] at h3; simp at h3; exact h3
  refine ⟨rfl, ?_⟩
  rw [List.take_of_length_le hl] at r2
  cases y with
  | mk a b c d e => simp only at hb r2; subst hb; subst r2; rfl
/-! ### the whole -/
open Classical in
noncomputable def unpI (ws : List Int) : Option DInode := if h : ∃ y, Vd ws y then some (Classical.choose h) else none
theorem unp_y {ws : List Int} {x : DInode} {ok : Bool} (h : Dec ws x ok) (h1 : inodeFault x = 0) (h2 : packI x = ws) : unpI ws = some x := by
  have hv : ∃ y, Vd ws y := ⟨x, h1, h2⟩
  rw [unpI, dif_pos hv, (h _ (Classical.choose_spec hv)).2]
theorem unp_n {ws : List Int} {x : DInode} {ok : Bool} (h : Dec ws x ok) (hn : ¬ (ok = true ∧ inodeFault x = 0 ∧ packI x = ws)) : unpI ws = none := by
  rw [unpI, dif_neg]
  rintro ⟨y, hy⟩
  obtain ⟨h1, h2⟩ := h y hy
  exact hn ⟨h1, h2 ▸ hy.1, h2 ▸ hy.2⟩
abbrev zeroI : DInode := ⟨0, 0, 0, [], []⟩
noncomputable def unpR (ws : List Int) : RInode := if wordsFault ws = 0 then if ws.length = 0 then ⟨0, zeroI⟩ else match unpI ws with | some x => ⟨0, x⟩ | none => ⟨5, zeroI⟩ else ⟨wordsFault ws, zeroI⟩
theorem unpR_f {ws : List Int} (h : ¬ wordsFault ws = 0) : unpR ws = ⟨wordsFault ws, zeroI⟩ := if_neg h
theorem unpR_e {ws : List Int} (h : wordsFault ws = 0) (h2 : ws.length = 0) : unpR ws = ⟨0, zeroI⟩ := by rw [unpR, if_pos h, if_pos h2]
theorem unpR_n {ws : List Int} (h : wordsFault ws = 0) (h2 : ¬ ws.length = 0) (h3 : unpI ws = none) : unpR ws = ⟨5, zeroI⟩ := by rw [unpR, if_pos h, if_neg h2, h3]
theorem unpR_y {ws : List Int} (h : wordsFault ws = 0) (h2 : ¬ ws.length = 0) {x : DInode} (h3 : unpI ws = some x) : unpR ws = ⟨0, x⟩ := by rw [unpR, if_pos h, if_neg h2, h3]
theorem unpR_ok (ws : List Int) : inodeFault (unpR ws).inode = 0 := by
  unfold unpR
  have hz : inodeFault zeroI = 0 := by decide
  split
  · split
    · exact hz
    · split
      · rename_i x hx
        unfold unpI at hx
        split at hx
        · rename_i hv
          obtain rfl := Option.some.inj hx
          exact (Classical.choose_spec hv).1
        · cases hx
      · exact hz
  · exact hz
theorem words_in {ws : List Int} (h : wordsFault ws = 0) : ∀ v, v ∈ ws → 0 ≤ v ∧ v ≤ 65535 := by
  intro v hv
  refine Classical.byContradiction fun hn => ?_
  obtain ⟨k, hk⟩ := List.mem_iff_getElem?.1 hv
  have := wordsFault_3 (by have := words_64 h; omega) hk hn
  omega
theorem mem_subL {α : Type} {xs : List α} {a b : Nat} {v : α} (h : v ∈ subL xs a b) : v ∈ xs := List.mem_of_mem_take (List.mem_of_mem_drop h)
theorem mem_at {α : Type} {xs : List α} {k : Nat} {v : α} (h : xs[k]? = some v) : v ∈ xs := List.mem_of_getElem? h
/-! ### by places -/
def wd (ws : List Int) (k : Nat) : Int := (ws[k]?).getD 0
theorem wd_get {ws : List Int} {k : Nat} {v : Int} (h : ws[k]? = some v) : wd ws k = v := by rw [wd, h]; rfl
theorem wd_out {ws : List Int} {k : Nat} (h : ws.length ≤ k) : wd ws k = 0 := by rw [wd, List.getElem?_eq_none h]; rfl
theorem wd_rng {ws : List Int} (h : ∀ v, v ∈ ws → 0 ≤ v ∧ v ≤ 65535) (k : Nat) : 0 ≤ wd ws k ∧ wd ws k ≤ 65535 := by
  unfold wd
  cases hk : ws[k]? with
  | none => exact ⟨Int.le_refl _, by decide⟩
  | some v => exact h v (mem_at hk)
theorem vd_wd {ws : List Int} {y : DInode} (h : Vd ws y) : wd ws 0 = y.kind ∧ wd ws 1 = y.links ∧ wd ws 2 = y.size := ⟨wd_get (vd_head h).1, wd_get (vd_head h).2.1, wd_get (vd_head h).2.2⟩
theorem vd_kind {ws : List Int} {y : DInode} (h : Vd ws y) : 0 ≤ y.kind ∧ y.kind ≤ 2 := by
  have h1 := h.1
  unfold inodeFault at h1
  split at h1
  · assumption
  · exact absurd h1 (by decide)
theorem sdec_1 {ws : List Int} {k : Int} (h0 : ws[0]? = some k) (hk : k = 1) : Dec ws ⟨k, wd ws 1, wd ws 2, ws.drop 3, []⟩ true := fun y hy => by
  have hl := vd_len hy
  obtain ⟨a, ha⟩ := get_ex (xs := ws) (j := 1) (by omega)
  obtain ⟨b, hb⟩ := get_ex (xs := ws) (j := 2) (by omega)
  rw [wd_get ha, wd_get hb]
  exact dec_file h0 ha hb (by omega) y hy
theorem sdec_n {ws : List Int} {k : Int} (h0 : ws[0]? = some k) (hk : ¬ k = 2) (hn : ¬ (k = 1 ∧ 3 < ws.length)) : Dec ws ⟨k, wd ws 1, wd ws 2, [], []⟩ true := fun y hy => by
  have hl := vd_len hy
  have hy0 := (vd_head hy).1
  rw [h0] at hy0
  obtain rfl := Option.some.inj hy0
  obtain ⟨a, ha⟩ := get_ex (xs := ws) (j := 1) (by omega)
  obtain ⟨b, hb⟩ := get_ex (xs := ws) (j := 2) (by omega)
  rw [wd_get ha, wd_get hb]
  have hd : ws.drop 3 = [] := by
    by_cases h1 : y.kind = 1
    · exact List.drop_eq_nil_of_le (Classical.byContradiction fun h => hn ⟨h1, by omega⟩)
    · have hf := hy.1
      unfold inodeFault at hf
      have hb0 : y.blocks = [] := by
        split at hf
        · split at hf
          · exact absurd hf (by decide)
          · rename_i h2
            exact List.length_eq_zero_iff.1 (Classical.byContradiction fun h3 => h2 (.inl ⟨h1, fun hh => h3 hh.2.2⟩))
        · exact absurd hf (by decide)
      rw [(vd_file hy hk).1, hb0]
      rfl
  have := dec_file h0 ha hb hk y hy
  rwa [hd] at this
theorem ri_w0 {ws : List Int} {k : Int} (h0 : ws[0]? = some k) : k = 2 → ∀ y, Vd ws y → RI y [] (ws.drop 4) := fun hk => ri_0 h0 hk
theorem dropW_get {ws : List Int} {p j : Nat} : (ws.drop p)[j]? = ws[p + j]? := List.getElem?_drop
theorem ri_ew {ws : List Int} {y : DInode} {E : List DEnt} {p : Nat} (h : RI y E (ws.drop p)) (hp : p < ws.length) : ∃ e, y.ents[E.length]? = some e ∧ wd ws p = e.ino ∧ wd ws (p + 1) = (e.name.size : Int) ∧ ∀ (j : Nat) b, e.name.data.toList[j]? = some b → wd ws (p + 2 + j) = (b.toNat : Int) := by
  obtain ⟨e, he, hq⟩ := ri_e h (by rw [List.length_drop]; omega)
  have key : ∀ j, ws[p + j]? = (e.ino :: (e.name.size : Int) :: (e.name.data.toList.map byteI ++ packL (y.ents.drop (E.length + 1))))[j]? := fun j => by rw [← hq, dropW_get]
  refine ⟨e, he, wd_get (by simpa using key 0), wd_get (by simpa using key 1), fun j b hb => ?_⟩
  refine wd_get ?_
  have := key (j + 1 + 1)
  rw [show p + (j + 1 + 1) = p + 2 + j by omega] at this
  rw [this]
  simp only [List.getElem?_cons_succ]
  have hj := (List.getElem?_eq_some_iff.1 hb).1
  rw [List.getElem?_append_left (by rw [List.length_map]; exact hj), List.getElem?_map, hb]
  rfl
theorem ni_w0 {ws : List Int} {E : List DEnt} {p : Nat} (H : ∀ y, Vd ws y → RI y E (ws.drop p)) (hp : p < ws.length) : NI ws E ⟨#[]⟩ 0 := ni_0 H (by rw [List.length_drop]; omega)
theorem tmod_b (b : UInt8) : Int.tmod (b.toNat : Int) 256 = (b.toNat : Int) := by
  have := UInt8.toNat_lt b
  rw [Int.tmod_eq_emod_of_nonneg (by omega)]
  omega
theorem ni_w {ws : List Int} {E : List DEnt} {p j : Nat} {nm : ByteArray} (H : ∀ y, Vd ws y → RI y E (ws.drop p)) (hp : p < ws.length) (hj : (j : Int) < wd ws (p + 1)) (h : NI ws E nm j) : NI ws E (nm ++ bstr [mbyte (Int.tmod (wd ws (p + 2 + j)) 256)]) (j + 1) := fun y hy => by
  obtain ⟨e, he, _, h2, h3⟩ := ri_ew (H y hy) hp
  obtain ⟨e', he', hnm⟩ := h y hy
  rw [he] at he'
  obtain rfl := Option.some.inj he'
  have hs := str_len e.name
  obtain ⟨b, hb⟩ := get_ex (xs := e.name.data.toList) (j := j) (by omega)
  refine ⟨e, he, ?_⟩
  rw [hnm, h3 j b hb, tmod_b, mbyte_nat, List.take_add_one, hb]
  apply ByteArray.ext
  simp [bstr]
theorem ri_w {ws : List Int} {E : List DEnt} {p j : Nat} {nm : ByteArray} (H : ∀ y, Vd ws y → RI y E (ws.drop p)) (hp : p < ws.length) (hj : j = 0 ∨ (j : Int) ≤ wd ws (p + 1)) (hx : wd ws (p + 1) ≤ (j : Int) ∨ 8 ≤ j) (h : NI ws E nm j) : ∀ y, Vd ws y → RI y (E ++ [⟨nm, wd ws p⟩]) (ws.drop (p + 2 + j)) := fun y hy => by
  obtain ⟨e, he, h1, h2, h3⟩ := ri_ew (H y hy) hp
  have h4 := name_size hy.1 he
  have hje : (j : Int) = (e.name.size : Int) := by omega
  have hq : 0 < (ws.drop p).length := by rw [List.length_drop]; omega
  obtain ⟨i, hi⟩ := get_ex (xs := ws.drop p) (j := 0) (by omega)
  have hi' := hi
  rw [dropW_get, Nat.add_zero] at hi'
  have hl : 1 < (ws.drop p).length := by
    obtain ⟨e2, _, hq2⟩ := ri_e (H y hy) hq
    rw [hq2]
    simp
  obtain ⟨n, hn⟩ := get_ex (xs := ws.drop p) (j := 1) hl
  have hn' := hn
  rw [dropW_get] at hn'
  have hnn : n = (j : Int) := by rw [hje, ← h2, wd_get hn']
  have := ri_s (m := 2 + j) H hq hi hn (fun y hy => by omega) (by omega) h y hy
  rw [wd_get hi', show p + 2 + j = p + (2 + j) by omega, ← List.drop_drop]
  exact this
theorem sdec_k {ws : List Int} {k : Int} {E : List DEnt} {p : Nat} (h0 : ws[0]? = some k) (hk : k = 2) (H : ∀ y, Vd ws y → RI y E (ws.drop p)) (h : wd ws 3 ≤ (E.length : Int) ∨ ws.length ≤ p) : Dec ws ⟨k, wd ws 1, wd ws 2, [], E⟩ true := fun y hy => by
  have hl := vd_len hy
  obtain ⟨a, ha⟩ := get_ex (xs := ws) (j := 1) (by omega)
  obtain ⟨b, hb⟩ := get_ex (xs := ws) (j := 2) (by omega)
  rw [wd_get ha, wd_get hb]
  rcases h with h | h
  · exact ri_cnt (n := 0) h0 ha hb hk h H y hy
  · exact ri_end h0 ha hb hk H (by rw [List.length_drop]; omega) y hy
end Go.Proofs.Ytoaebcjjfojfeaa
/- What is proved: results of which one lies in memory. No condition. -/
namespace Go.Proofs.Ytoaebcjjfojfeaa
open Go Go.RowKit
set_option linter.unusedVariables false
set_option linter.unusedSimpArgs false
section
variable {w0 : World} {S0 : Bs} {T : Slots} {l : List Asn} {P : Program}
theorem res_ct {fn : Func} {s ty u : Nat} {ad : Addr} {cs : List Value} {v : Value} (hr : fn.results = #[.cell s ty, .tmp u]) (h : Get T (s, .pointer (some ad))) (hg : AggIs P ty true) (hi : (P.info? ty).map (·.size) = some cs.length)
    (hc : ∀ w, WS w0 S0 l w → ∀ (i : Nat) (u : Value), cs[i]? = some u → w.cell? (ad.add i) = some u) (k : Get T (u, v)) : ∀ (a : Act) (w : World), Holds T a → WS w0 S0 l w → (results fn a.tmps).run P w = .ok (.tuple #[.agg cs.toArray, v]) w := fun a w ha hw => by
  obtain ⟨d, ht, hd⟩ := hg.ex
  have hag := run_isAgg ht w
  rw [hd] at hag
  obtain ⟨i0, h1, h2⟩ := Option.map_eq_some_iff.1 hi
  have hl := run_loadCells_list (P := P) w ad cs (hc w hw)
  have e1 := slot_of h ha
  have e2 := slot_of k ha
  simp only [Array.getD_eq_getD_getElem?] at e1 e2
  simp [results, hr, e1, e2, asAddr, loadVar, Sem.run_bind, hag, sizeOf, typeInfo, h1, h2, hl]
theorem res_ctt {fn : Func} {s ty u0 u1 : Nat} {ad : Addr} {cs : List Value} {v0 v1 : Value} (hr : fn.results = #[.cell s ty, .tmp u0, .tmp u1]) (h : Get T (s, .pointer (some ad))) (hg : AggIs P ty true) (hi : (P.info? ty).map (·.size) = some cs.length)
    (hc : ∀ w, WS w0 S0 l w → ∀ (i : Nat) (u : Value), cs[i]? = some u → w.cell? (ad.add i) = some u) (k0 : Get T (u0, v0)) (k1 : Get T (u1, v1)) : ∀ (a : Act) (w : World), Holds T a → WS w0 S0 l w → (results fn a.tmps).run P w = .ok (.tuple #[.agg cs.toArray, v0, v1]) w := fun a w ha hw => by
  obtain ⟨d, ht, hd⟩ := hg.ex
  have hag := run_isAgg ht w
  rw [hd] at hag
  obtain ⟨i0, h1, h2⟩ := Option.map_eq_some_iff.1 hi
  have hl := run_loadCells_list (P := P) w ad cs (hc w hw)
  have e1 := slot_of h ha
  have f0 := slot_of k0 ha
  have f1 := slot_of k1 ha
  simp only [Array.getD_eq_getD_getElem?] at e1 f0 f1
  simp [results, hr, e1, f0, f1, asAddr, loadVar, Sem.run_bind, hag, sizeOf, typeInfo, h1, h2, hl]
theorem res_cttt {fn : Func} {s ty u0 u1 u2 : Nat} {ad : Addr} {cs : List Value} {v0 v1 v2 : Value} (hr : fn.results = #[.cell s ty, .tmp u0, .tmp u1, .tmp u2]) (h : Get T (s, .pointer (some ad))) (hg : AggIs P ty true) (hi : (P.info? ty).map (·.size) = some cs.length)
    (hc : ∀ w, WS w0 S0 l w → ∀ (i : Nat) (u : Value), cs[i]? = some u → w.cell? (ad.add i) = some u) (k0 : Get T (u0, v0)) (k1 : Get T (u1, v1)) (k2 : Get T (u2, v2)) : ∀ (a : Act) (w : World), Holds T a → WS w0 S0 l w → (results fn a.tmps).run P w = .ok (.tuple #[.agg cs.toArray, v0, v1, v2]) w := fun a w ha hw => by
  obtain ⟨d, ht, hd⟩ := hg.ex
  have hag := run_isAgg ht w
  rw [hd] at hag
  obtain ⟨i0, h1, h2⟩ := Option.map_eq_some_iff.1 hi
  have hl := run_loadCells_list (P := P) w ad cs (hc w hw)
  have e1 := slot_of h ha
  have f0 := slot_of k0 ha
  have f1 := slot_of k1 ha
  have f2 := slot_of k2 ha
  simp only [Array.getD_eq_getD_getElem?] at e1 f0 f1 f2
  simp [results, hr, e1, f0, f1, f2, asAddr, loadVar, Sem.run_bind, hag, sizeOf, typeInfo, h1, h2, hl]
end
end Go.Proofs.Ytoaebcjjfojfeaa
/- What is proved: small laws for what draws numbers from bytes. No condition. -/
namespace Go.Proofs.Ytoaebcjjfojfeaa
open Go Go.RowKit
theorem tmod_in {x n : Int} (hx : 0 ≤ x) (hn : 1 ≤ n) : 0 ≤ Int.tmod x n ∧ Int.tmod x n < n :=
  ⟨Int.tmod_nonneg _ hx, Int.tmod_lt_of_pos _ (by omega)⟩
theorem div_in {x n : Int} (hx : 0 ≤ x) (hn : 1 ≤ n) : 0 ≤ x / n ∧ x / n ≤ x :=
  ⟨Int.ediv_nonneg hx (by omega), Int.ediv_le_self _ hx⟩
theorem src_hl {α : Type} {K : Kd α} {e by_ : Nat} {w : World} {F : Bs} {xs : List α} {A : Option Addr} {c : Nat} (h : (kslice e by_ K).ro w F xs [.slice A xs.length c]) : xs.length ≤ c ∧ c ≤ 9223372036854775807 ∧ xs.length * by_ ≤ 140737488355328 := by
  obtain ⟨A', c', hv, h1, h2, h3, _⟩ := ro_form h
  cases hv
  exact ⟨h1, h2, h3⟩
end Go.Proofs.Ytoaebcjjfojfeaa
/- What is proved: paths: cut at a byte, joined again, in plain Lean. No condition. -/
namespace Go.Proofs.Ytoaebcjjfojfeaa
open Go Go.RowKit
set_option linter.unusedVariables false
set_option linter.unusedSimpArgs false
abbrev sl1 : ByteArray := ⟨#[47]⟩
/-! ### cut at a slash -/
def cutL : List UInt8 → List (List UInt8)
  | [] => [[]]
  | b :: l => if b = 47 then [] :: cutL l else match cutL l with | [] => [[b]] | p :: ps => (b :: p) :: ps
theorem cutL_ne : ∀ l, cutL l ≠ []
  | [] => by simp [cutL]
  | b :: l => by
    unfold cutL
    split
    · simp
    · split <;> simp
theorem cutL_no : ∀ {l : List UInt8}, (∀ b, b ∈ l → b ≠ 47) → cutL l = [l]
  | [], _ => rfl
  | b :: l, h => by
    unfold cutL
    rw [if_neg (h b (by simp)), cutL_no (fun c hc => h c (by simp [hc]))]
theorem cutL_at : ∀ {n : Nat} {l : List UInt8}, (∀ (j : Nat) b, j < n → l[j]? = some b → b ≠ 47) → l[n]? = some 47 → cutL l = l.take n :: cutL (l.drop (n + 1))
  | 0, [], _, h => by simp at h
  | 0, b :: l, _, h => by
    have : b = 47 := by simpa using h
    subst this
    rw [cutL, if_pos rfl]
    simp
  | n + 1, [], _, h => by simp at h
  | n + 1, b :: l, ha, h => by
    have ih := cutL_at (n := n) (l := l) (fun j c hj hc => ha (j + 1) c (by omega) (by simpa using hc)) (by simpa using h)
    have h0 : b ≠ 47 := ha 0 b (by omega) (by simp)
    rw [cutL, if_neg h0, ih]
    simp
theorem split_eq : ∀ l : List UInt8, Lib.split l [47] = cutL l
  | [] => by
    have : Lib.index [] [47] = -1 := by decide
    unfold Lib.split
    rw [Lib.count_miss this]
    rfl
  | b :: l => by
    have ih := split_eq l
    unfold Lib.split at ih ⊢
    by_cases hb : b = 47
    · subst hb
      have hix : Lib.index ((47 : UInt8) :: l) [47] = ((0 : Nat) : Int) := by rw [Lib.index]; simp [List.isPrefixOf]
      rw [Lib.count_cons_eq, Nat.add_comm, Lib.splitK, if_neg (by rw [hix]; decide), hix]
      rw [cutL, if_pos rfl, ← ih]
      simp
    · have hp : ([47] : List UInt8).isPrefixOf (b :: l) = false := by simp [List.isPrefixOf, Ne.symm hb]
      have hix : Lib.index (b :: l) [47] = if Lib.index l [47] == -1 then -1 else Lib.index l [47] + 1 := by rw [Lib.index, hp]; simp
      rw [Lib.count_cons_ne b 47 l hb, cutL, if_neg hb]
      by_cases hm : Lib.index l [47] = -1
      · rw [Lib.count_miss hm] at ih ⊢
        rw [Lib.splitK] at ih ⊢
        rw [← ih]
      · have hge := Lib.index_ge l [47]
        obtain ⟨j, hj⟩ : ∃ j : Nat, Lib.index l [47] = j := ⟨(Lib.index l [47]).toNat, by omega⟩
        have hc : Lib.count l [47] = Lib.count (l.drop (j + 1)) [47] + 1 := by rw [Lib.count_hit (by simp) hj]; simp; omega
        have hix' : Lib.index (b :: l) [47] = ((j + 1 : Nat) : Int) := by rw [hix, if_neg (fun e => hm (beq_iff_eq.1 e)), hj]; omega
        rw [hc] at ih ⊢
        rw [Lib.splitK, if_neg (by rw [hj]; simp), hj] at ih
        rw [Lib.splitK, if_neg (by rw [hix']; simp; omega), hix', ← ih]
        simp
def cutB (s : ByteArray) : List ByteArray := (cutL s.data.toList).map bstr
theorem bstr_data (s : ByteArray) : bstr s.data.toList = s := by cases s; simp [bstr]
theorem splitB_cut (s : ByteArray) : Lib.splitB sl1 0 (Lib.countB s sl1) s = cutB s := by
  have h := Lib.splitB_data sl1 0 (Lib.countB s sl1) s
  have e : Lib.splitK sl1.data.toList 0 (Lib.countB s sl1) s.data.toList = cutL s.data.toList := split_eq s.data.toList
  rw [e] at h
  unfold cutB
  rw [← h, List.map_map]
  have : (bstr ∘ fun x : ByteArray => x.data.toList) = id := funext fun x => bstr_data x
  rw [this, List.map_id]
theorem cutB_ne (s : ByteArray) : cutB s ≠ [] := by unfold cutB; simp [cutL_ne]
theorem cutB_len (s : ByteArray) : 1 ≤ (cutB s).length := by
  have := cutB_ne s
  cases h : cutB s with
  | nil => exact absurd h this
  | cons a l => simp
theorem cutL_len : ∀ l : List UInt8, (cutL l).length ≤ l.length + 1
  | [] => by simp [cutL]
  | b :: l => by
    have := cutL_len l
    unfold cutL
    split
    · simp; omega
    · split
      · simp
      · rename_i p ps h
        rw [h] at this
        simp at this ⊢
        omega
theorem cutL_size : ∀ (l : List UInt8) (p : List UInt8), p ∈ cutL l → p.length ≤ l.length
  | [], p, h => by simp [cutL] at h; subst h; simp
  | b :: l, p, h => by
    unfold cutL at h
    split at h
    · rcases List.mem_cons.1 h with rfl | h
      · simp
      · have := cutL_size l p h; simp; omega
    · split at h
      · rename_i h2; exact absurd h2 (cutL_ne l)
      · rename_i q ps h2
        rcases List.mem_cons.1 h with rfl | h
        · have := cutL_size l q (by rw [h2]; simp); simp; omega
        · have := cutL_size l p (by rw [h2]; simp [h]); simp; omega
theorem cutB_size {s p : ByteArray} (h : p ∈ cutB s) : p.size ≤ s.size := by
  unfold cutB at h
  obtain ⟨q, hq, rfl⟩ := List.mem_map.1 h
  have := cutL_size _ q hq
  have e := str_len s
  have e2 : (bstr q).size = q.length := by simp [bstr, ByteArray.size]
  omega
/-! the loop that cuts -/
def CI (l : List UInt8) (m k : Nat) (out : List ByteArray) : Prop :=
  m ≤ k ∧ (∀ (j : Nat) b, m ≤ j → j < k → l[j]? = some b → b ≠ 47) ∧ (cutL l).map bstr = out ++ (cutL (l.drop m)).map bstr
theorem CI_0 {l : List UInt8} : CI l 0 0 [] := ⟨Nat.le_refl _, fun j b h1 h2 => absurd h2 (by omega), rfl⟩
theorem CI_n {l : List UInt8} {m k : Nat} {out : List ByteArray} {b : UInt8} (h : CI l m k out) (hb : l[k]? = some b) (hn : b ≠ 47) : CI l m (k + 1) out :=
  ⟨by have := h.1; omega, fun j c h1 h2 hc => by
    rcases Nat.lt_succ_iff_lt_or_eq.1 h2 with h3 | rfl
    · exact h.2.1 j c h1 h3 hc
    · rw [hb] at hc; obtain rfl := Option.some.inj hc; exact hn, h.2.2⟩
theorem CI_y {s : ByteArray} {m k : Nat} {out : List ByteArray} {b : UInt8} (h : CI s.data.toList m k out) (hb : s.data.toList[k]? = some b) (hn : b = 47) : CI s.data.toList (k + 1) (k + 1) (out ++ [s.extract m k]) := by
  subst hn
  obtain ⟨h1, h2, h3⟩ := h
  refine ⟨Nat.le_refl _, fun j c a b => absurd a (by omega), ?_⟩
  have hk : m + (k - m) = k := by omega
  have e := cutL_at (n := k - m) (l := s.data.toList.drop m) (fun j c hj hc => h2 (m + j) c (by omega) (by omega) (by rw [List.getElem?_drop] at hc; exact hc)) (by rw [List.getElem?_drop, hk]; exact hb)
  rw [h3, e, List.drop_drop, List.map_cons, show m + (k - m + 1) = k + 1 by omega]
  have e2 : s.extract m k = bstr (List.take (k - m) (List.drop m s.data.toList)) := by
    rw [← bstr_data (s.extract m k), Lib.extract_data]
  rw [e2]
  simp
theorem CI_end {s : ByteArray} {m k : Nat} {out : List ByteArray} (h : CI s.data.toList m k out) (hk : k = s.size) : out ++ [s.extract m k] = cutB s := by
  subst hk
  obtain ⟨h1, h2, h3⟩ := h
  unfold cutB
  rw [h3, cutL_no (fun b hb => by
    obtain ⟨j, hj⟩ := List.mem_iff_getElem?.1 hb
    rw [List.getElem?_drop] at hj
    have := (List.getElem?_eq_some_iff.1 hj).1
    rw [str_len] at this
    exact h2 (m + j) b (by omega) (by omega) hj)]
  have e : List.take (s.size - m) (List.drop m s.data.toList) = List.drop m s.data.toList := List.take_of_length_le (by rw [List.length_drop, str_len]; omega)
  rw [← bstr_data (s.extract m s.size), Lib.extract_data, e]
  simp
/-! ### the faults of names -/
def firstC : List ByteArray → Int
  | [] => 0
  | s :: l => if nameFault s = 0 then firstC l else nameFault s
theorem firstC_all : ∀ {xs : List ByteArray}, (∀ (j : Nat) s, xs[j]? = some s → nameFault s = 0) → firstC xs = 0
  | [], _ => rfl
  | s :: l, h => by
    unfold firstC
    rw [if_pos (h 0 s (by simp))]
    exact firstC_all (fun j t ht => h (j + 1) t (by simpa using ht))
theorem firstC_at : ∀ {xs : List ByteArray} {k : Nat} {s : ByteArray}, (∀ (j : Nat) s, j < k → xs[j]? = some s → nameFault s = 0) → xs[k]? = some s → ¬ nameFault s = 0 → firstC xs = nameFault s
  | [], _, _, _, h, _ => by simp at h
  | t :: l, 0, s, _, h, hn => by
    have : t = s := by simpa using h
    subst this
    unfold firstC
    rw [if_neg hn]
  | t :: l, k + 1, s, ha, h, hn => by
    unfold firstC
    rw [if_pos (ha 0 t (by omega) (by simp))]
    exact firstC_at (k := k) (fun j u hj hu => ha (j + 1) u (by omega) (by simpa using hu)) (by simpa using h) hn
theorem firstC_0 : ∀ {xs : List ByteArray}, firstC xs = 0 → ∀ s, s ∈ xs → nameFault s = 0
  | [], _, _, h => by simp at h
  | t :: l, h0, s, h => by
    unfold firstC at h0
    split at h0
    · rename_i ht
      rcases List.mem_cons.1 h with rfl | h
      · exact ht
      · exact firstC_0 h0 s h
    · rename_i ht; exact absurd h0 ht
def namesC (xs : List ByteArray) : Int := if 6 < xs.length then 2 else firstC xs
theorem namesC_2 {xs : List ByteArray} (h : 6 < xs.length) : namesC xs = 2 := if_pos h
theorem namesC_n {xs : List ByteArray} (h : ¬ 6 < xs.length) {k : Nat} {s : ByteArray} (ha : ∀ (j : Nat) s, j < k → xs[j]? = some s → nameFault s = 0) (hs : xs[k]? = some s) (hn : ¬ nameFault s = 0) : namesC xs = nameFault s := by rw [namesC, if_neg h, firstC_at ha hs hn]
theorem namesC_0 {xs : List ByteArray} (h : ¬ 6 < xs.length) {k : Nat} (ha : ∀ (j : Nat) s, j < k → xs[j]? = some s → nameFault s = 0) (hk : xs.length ≤ k) : namesC xs = 0 := by
  rw [namesC, if_neg h]
  exact firstC_all fun j s hs => ha j s (Nat.lt_of_lt_of_le (List.getElem?_eq_some_iff.1 hs).1 hk) hs
theorem namesOk {xs : List ByteArray} (h : namesC xs = 0) : xs.length ≤ 6 ∧ ∀ s, s ∈ xs → nameFault s = 0 := by
  unfold namesC at h
  split at h
  · exact absurd h (by decide)
  · exact ⟨by omega, firstC_0 h⟩
/-! ### a path split -/
abbrev tailB (s : ByteArray) : ByteArray := ByteArray.extract s 1 s.size
def badP (s : ByteArray) : Prop := s.data.toList[0]? ≠ some 47 ∨ s.data.toList[s.size - 1]? = some 47
instance (s : ByteArray) : Decidable (badP s) := by unfold badP; infer_instance
def splitC (s : ByteArray) : Int := if 30 < s.size then 2 else if s = sl1 then 0 else if badP s then 5 else namesC (cutB (tailB s))
def splitN (s : ByteArray) : List ByteArray := if splitC s = 0 ∧ s ≠ sl1 then cutB (tailB s) else []
theorem split_2 {s : ByteArray} (h : 30 < s.size) : splitC s = 2 ∧ splitN s = [] := by
  have : splitC s = 2 := if_pos h
  exact ⟨this, by rw [splitN, if_neg]; rw [this]; simp⟩
theorem split_r {s : ByteArray} (h : ¬ 30 < s.size) (h2 : s = sl1) : splitC s = 0 ∧ splitN s = [] := by
  have : splitC s = 0 := by rw [splitC, if_neg h, if_pos h2]
  exact ⟨this, by rw [splitN, if_neg]; simp [h2]⟩
theorem split_5 {s : ByteArray} (h : ¬ 30 < s.size) (h2 : ¬ s = sl1) (h3 : badP s) : splitC s = 5 ∧ splitN s = [] := by
  have : splitC s = 5 := by rw [splitC, if_neg h, if_neg h2, if_pos h3]
  exact ⟨this, by rw [splitN, if_neg]; rw [this]; simp⟩
theorem split_c {s : ByteArray} (h : ¬ 30 < s.size) (h2 : ¬ s = sl1) (h3 : ¬ badP s) (h4 : ¬ namesC (cutB (tailB s)) = 0) : splitC s = namesC (cutB (tailB s)) ∧ splitN s = [] := by
  have : splitC s = namesC (cutB (tailB s)) := by rw [splitC, if_neg h, if_neg h2, if_neg h3]
  exact ⟨this, by rw [splitN, if_neg]; rw [this]; simp [h4]⟩
theorem split_0 {s : ByteArray} (h : ¬ 30 < s.size) (h2 : ¬ s = sl1) (h3 : ¬ badP s) (h4 : namesC (cutB (tailB s)) = 0) : splitC s = 0 ∧ splitN s = cutB (tailB s) := by
  have : splitC s = 0 := by rw [splitC, if_neg h, if_neg h2, if_neg h3, h4]
  exact ⟨this, by rw [splitN, if_pos ⟨this, h2⟩]⟩
theorem splitN_ok (s : ByteArray) : (splitN s).length ≤ 6 ∧ ∀ x, x ∈ splitN s → nameFault x = 0 := by
  by_cases h : splitC s = 0 ∧ s ≠ sl1
  · obtain ⟨h1, h2⟩ := h
    have h3 : splitN s = cutB (tailB s) := by rw [splitN, if_pos ⟨h1, h2⟩]
    unfold splitC at h1
    split at h1
    · exact absurd h1 (by decide)
    · split at h1
      · exact absurd h1 (by decide)
      · rw [h3]; exact namesOk h1
  · rw [splitN, if_neg h]; simp
/-! ### joined -/
def joinL (xs : List ByteArray) : List UInt8 := (xs.map (fun s => 47 :: s.data.toList)).flatten
def joinB (xs : List ByteArray) : ByteArray := if xs = [] then sl1 else bstr (joinL xs)
theorem join_eq (xs : List ByteArray) : sl1 ++ bstr (Lib.join (xs.map (·.data.toList)) [47]) = joinB xs := by
  cases xs with
  | nil => rfl
  | cons x r =>
    rw [joinB, if_neg (by simp), List.map_cons, Lib.join_cons]
    rw [← bstr_data (sl1 ++ _)]
    congr 1
    simp [joinL, Lib.joinTail, bstr, List.map_map, Function.comp_def]
theorem joinL_len {xs : List ByteArray} (h : ∀ s, s ∈ xs → nameFault s = 0) : (joinL xs).length ≤ 5 * xs.length := by
  induction xs with
  | nil => simp [joinL]
  | cons x r ih =>
    have h1 := (name_4 (h x (by simp))).1
    have h2 := ih (fun s hs => h s (by simp [hs]))
    have h3 := str_len x
    simp only [joinL, List.map_cons, List.flatten_cons, List.length_append, List.length_cons] at h2 ⊢
    omega
theorem joinL_snoc (xs : List ByteArray) (x : ByteArray) : joinL (xs ++ [x]) = joinL xs ++ 47 :: x.data.toList := by simp [joinL]
def jnB (xs : List ByteArray) : ByteArray := bstr (joinL xs)
theorem jnB_s {xs : List ByteArray} {k : Nat} {x : ByteArray} (h : xs[k]? = some x) : jnB (xs.take k) ++ sl1 ++ x = jnB (xs.take (k + 1)) := by
  rw [List.take_add_one, h]
  have e : ∀ a b : ByteArray, a = bstr b.data.toList → a = b := fun a b h => by rw [h, bstr_data]
  symm
  apply e
  unfold jnB
  congr 1
  simp [joinL, bstr]
theorem jnB_e {xs : List ByteArray} : (jnB xs = ⟨#[]⟩) ↔ xs = [] := by
  constructor
  · intro h
    cases xs with
    | nil => rfl
    | cons x r =>
      have := congrArg (fun b : ByteArray => b.data.toList) h
      simp [jnB, bstr, joinL] at this
  · rintro rfl; rfl
theorem joinB_e {xs : List ByteArray} (h : jnB xs = ⟨#[]⟩) : joinB xs = sl1 := if_pos (jnB_e.1 h)
theorem joinB_n {xs : List ByteArray} (h : ¬ jnB xs = ⟨#[]⟩) : joinB xs = jnB xs := if_neg (fun e => h (jnB_e.2 e))
theorem jnB_size {xs : List ByteArray} (h : ∀ s, s ∈ xs → nameFault s = 0) : (jnB xs).size ≤ 5 * xs.length := by
  have := joinL_len h
  simpa [jnB, bstr, ByteArray.size] using this
theorem joinB_size {xs : List ByteArray} (h : ∀ s, s ∈ xs → nameFault s = 0) : (joinB xs).size ≤ 5 * xs.length + 1 := by
  unfold joinB
  split
  · show (1 : Nat) ≤ _; omega
  · have := jnB_size h; unfold jnB at this; omega
theorem join_sz {xs : List ByteArray} (h : ∀ s, s ∈ xs → nameFault s = 0) (hl : xs.length ≤ 6) : (bstr (Lib.join (List.map (fun s : ByteArray => s.data.toList) xs) [47])).size ≤ 30 := by
  have h1 := joinB_size h
  have h2 := congrArg ByteArray.size (join_eq xs)
  rw [ByteArray.size_append] at h2
  have h3 : sl1.size = 1 := rfl
  have h4 : (bstr (Lib.join (xs.map (·.data.toList)) [47])).size = (bstr (Lib.join (List.map (fun s : ByteArray => s.data.toList) xs) [47])).size := rfl
  omega
theorem size_0 {s : ByteArray} {b : UInt8} {j : Nat} (h : s.data.toList[j]? = some b) : j < s.size := by rw [← str_len]; exact (List.getElem?_eq_some_iff.1 h).1
theorem byte_47 {b : UInt8} : (b.toNat : Int) = 47 ↔ b = 47 := ⟨fun h => UInt8.toNat_inj.1 (show b.toNat = (47 : UInt8).toNat by have : (47 : UInt8).toNat = 47 := rfl; omega), fun h => by subst h; rfl⟩
theorem bad_e {s : ByteArray} (h : (s.size : Int) = 0) : badP s := .inl (by rw [List.getElem?_eq_none (by rw [str_len]; omega)]; simp)
theorem bad_f {s : ByteArray} {b : UInt8} (hb : s.data.toList[0]? = some b) (h : ¬ (b.toNat : Int) = 47) : badP s := .inl (by rw [hb]; intro e; exact h (byte_47.2 (Option.some.inj e)))
theorem bad_l {s : ByteArray} {b : UInt8} {j : Nat} (hb : s.data.toList[j]? = some b) (hj : j = s.size - 1) (h : (b.toNat : Int) = 47) : badP s := .inr (by rw [← hj, hb, byte_47.1 h])
theorem nbad {s : ByteArray} {b c : UInt8} {j : Nat} (hb : s.data.toList[0]? = some b) (h : (b.toNat : Int) = 47) (hc : s.data.toList[j]? = some c) (hj : j = s.size - 1) (hn : ¬ (c.toNat : Int) = 47) : ¬ badP s := by
  rintro (h1 | h1)
  · exact h1 (by rw [hb, byte_47.1 h])
  · rw [← hj, hc] at h1; exact hn (byte_47.2 (Option.some.inj h1))
theorem nbad2 {s : ByteArray} (h : s.data.toList[0]? = some 47) (h2 : ¬ s.data.toList[s.size - 1]? = some 47) : ¬ badP s := by
  rintro (h1 | h1)
  · exact h1 h
  · exact h2 h1
/-! ### what is told -/
def splitR (s : ByteArray) : RNames := ⟨splitC s, splitN s⟩
def joinR (xs : List ByteArray) : RText := if namesC xs = 0 then ⟨0, joinB xs⟩ else ⟨namesC xs, ⟨#[]⟩⟩
theorem joinR_c {xs : List ByteArray} (h : ¬ namesC xs = 0) : joinR xs = ⟨namesC xs, ⟨#[]⟩⟩ := if_neg h
theorem joinR_0 {xs : List ByteArray} (h : namesC xs = 0) : joinR xs = ⟨0, joinB xs⟩ := if_pos h
def lastC (s : ByteArray) : Int := if splitC s = 0 then if splitN s = [] then 4 else 0 else splitC s
def lastN (s : ByteArray) : List ByteArray := if lastC s = 0 then (splitN s).take ((splitN s).length - 1) else []
def lastT (s : ByteArray) : ByteArray := if lastC s = 0 then ((splitN s)[(splitN s).length - 1]?).getD ⟨#[]⟩ else ⟨#[]⟩
theorem last_c {s : ByteArray} (h : ¬ splitC s = 0) : lastC s = splitC s ∧ lastN s = [] ∧ lastT s = ⟨#[]⟩ := by
  have : lastC s = splitC s := if_neg h
  exact ⟨this, by rw [lastN, this, if_neg h], by rw [lastT, this, if_neg h]⟩
theorem last_4 {s : ByteArray} (h : splitC s = 0) (h2 : splitN s = []) : lastC s = 4 ∧ lastN s = [] ∧ lastT s = ⟨#[]⟩ := by
  have : lastC s = 4 := by rw [lastC, if_pos h, if_pos h2]
  exact ⟨this, by rw [lastN, this, if_neg (by decide)], by rw [lastT, this, if_neg (by decide)]⟩
theorem last_0 {s : ByteArray} (h : splitC s = 0) (h2 : ¬ splitN s = []) : lastC s = 0 ∧ lastN s = (splitN s).take ((splitN s).length - 1) ∧ ∀ (j : Nat) x, j = (splitN s).length - 1 → (splitN s)[j]? = some x → lastT s = x := by
  have : lastC s = 0 := by rw [lastC, if_pos h, if_neg h2]
  exact ⟨this, by rw [lastN, if_pos this], fun j x hj hx => by rw [lastT, if_pos this, ← hj, hx]; rfl⟩
theorem len_nil {α : Type} {xs : List α} : (xs.length : Int) = 0 ↔ xs = [] := by rw [← List.length_eq_zero_iff]; omega
theorem lastN_ok (s : ByteArray) : (lastN s).length ≤ 6 ∧ ∀ x, x ∈ lastN s → nameFault x = 0 := by
  have h := splitN_ok s
  unfold lastN
  split
  · exact ⟨by rw [List.length_take]; omega, fun x hx => h.2 x (List.mem_of_mem_take hx)⟩
  · simp
theorem lastT_size (s : ByteArray) : (lastT s).size ≤ 4 := by
  unfold lastT
  split
  · cases hx : (splitN s)[(splitN s).length - 1]? with
    | none => exact Nat.zero_le _
    | some x => exact (name_4 ((splitN_ok s).2 x (List.mem_of_getElem? hx))).1
  · exact Nat.zero_le _
def parentR (s : ByteArray) : RText := if lastC s = 0 then ⟨0, joinB (lastN s)⟩ else ⟨lastC s, ⟨#[]⟩⟩
theorem parentR_c {s : ByteArray} (h : ¬ lastC s = 0) : parentR s = ⟨lastC s, ⟨#[]⟩⟩ := if_neg h
theorem parentR_0 {s : ByteArray} (h : lastC s = 0) : parentR s = ⟨0, joinB (lastN s)⟩ := if_pos h
def lastR (s : ByteArray) : RText := if lastC s = 0 then ⟨0, lastT s⟩ else ⟨lastC s, ⟨#[]⟩⟩
theorem lastR_c {s : ByteArray} (h : ¬ lastC s = 0) : lastR s = ⟨lastC s, ⟨#[]⟩⟩ := if_neg h
theorem lastR_0 {s : ByteArray} (h : lastC s = 0) : lastR s = ⟨0, lastT s⟩ := if_pos h
theorem parentR_size (s : ByteArray) : (parentR s).text.size ≤ 140737488351232 := by
  unfold parentR
  split
  · have h := lastN_ok s
    have := joinB_size h.2
    show (joinB (lastN s)).size ≤ _
    omega
  · exact Nat.zero_le _
theorem lastR_size (s : ByteArray) : (lastR s).text.size ≤ 140737488351232 := by
  have := lastT_size s
  unfold lastR
  split
  · show (lastT s).size ≤ _; omega
  · exact Nat.zero_le _
theorem joinR_size (xs : List ByteArray) : (joinR xs).text.size ≤ 140737488351232 := by
  unfold joinR
  split
  · rename_i h
    have := joinB_size (namesOk h).2
    have := (namesOk h).1
    show (joinB xs).size ≤ _
    omega
  · exact Nat.zero_le _
def belowB (p t : ByteArray) : Bool := decide (splitC p = 0 ∧ splitC t = 0 ∧ (splitN t).length < (splitN p).length ∧ (splitN p).take (splitN t).length = splitN t)
theorem below_n {p t : ByteArray} (h : ¬ (splitC p = 0 ∧ splitC t = 0 ∧ (splitN t).length < (splitN p).length)) : belowB p t = false := decide_eq_false fun h2 => h ⟨h2.1, h2.2.1, h2.2.2.1⟩
theorem below_t {p t : ByteArray} (h1 : splitC p = 0) (h2 : splitC t = 0) (h3 : (splitN t).length < (splitN p).length) : belowB p t = decide ((splitN p).take (splitN t).length = splitN t) := by
  unfold belowB
  rw [decide_eq_decide]
  exact ⟨fun h => h.2.2.2, fun h => ⟨h1, h2, h3, h⟩⟩
theorem below_e {p t : ByteArray} (h1 : splitC p = 0) (h2 : splitC t = 0) (h3 : (splitN t).length < (splitN p).length) {k : Nat} (hk : (splitN t).length ≤ k) (ha : ∀ (j : Nat), j < k → (splitN p)[j]? = (splitN t)[j]? ∨ (splitN t).length ≤ j) : belowB p t = true := by
  rw [below_t h1 h2 h3, decide_eq_true_iff]
  apply List.ext_getElem?
  intro j
  rw [List.getElem?_take]
  split
  · rcases ha j (by omega) with h | h
    · exact h
    · omega
  · rw [List.getElem?_eq_none (by omega)]
theorem below_ne {p t : ByteArray} {j : Nat} {x y : ByteArray} (hx : (splitN p)[j]? = some x) (hy : (splitN t)[j]? = some y) (hn : ¬ x = y) : belowB p t = false := by
  refine decide_eq_false fun h => hn ?_
  have hj := (List.getElem?_eq_some_iff.1 hy).1
  have : ((splitN p).take (splitN t).length)[j]? = (splitN t)[j]? := by rw [h.2.2.2]
  rw [List.getElem?_take, if_pos hj, hx, hy] at this
  exact Option.some.inj this
theorem ext_size {s : ByteArray} {a b B : Nat} (h : s.size ≤ B) : (ByteArray.extract s a b).size ≤ B := by rw [ByteArray.size_extract]; omega
end Go.Proofs.Ytoaebcjjfojfeaa
/- What is proved: the names that are drawn have no fault. No condition. -/
namespace Go.Proofs.Ytoaebcjjfojfeaa
open Go
theorem names_ok6 : ∀ s : ByteArray, s ∈ ([⟨#[97]⟩, ⟨#[98]⟩, ⟨#[99]⟩, ⟨#[100]⟩, ⟨#[97, 98]⟩, ⟨#[104, 97, 108, 108]⟩] : List ByteArray) → nameFault s = 0 := by decide
theorem drawn_sz : ∀ s : ByteArray, s ∈ ([⟨#[97]⟩, ⟨#[97, 98, 99, 100]⟩, ⟨#[97, 98, 99, 100, 101]⟩, ⟨#[]⟩, ⟨#[65]⟩, ⟨#[97, 47]⟩, ⟨#[122, 122]⟩, ⟨#[97, 98, 99, 100, 69]⟩] : List ByteArray) → s.size ≤ 100 := by decide
theorem drawn_tx : ∀ s : ByteArray, s ∈ ([⟨#[]⟩, ⟨#[97]⟩, ⟨#[47, 97, 47]⟩, ⟨#[47, 47]⟩, ⟨#[47, 65]⟩, ⟨#[47, 97, 98, 99, 100, 101]⟩, ⟨#[47, 97, 47, 98, 47, 99, 47, 100, 47, 97, 47, 98, 47, 99]⟩, ⟨#[47, 97, 32, 98]⟩, ⟨#[47, 104, 97, 108, 108, 47, 104, 97, 108, 108, 47, 104, 97, 108, 108, 47, 104, 97, 108, 108, 47, 104, 97, 108, 108, 47, 104, 97, 108, 108]⟩, ⟨#[47, 104, 97, 108, 108, 47, 104, 97, 108, 108, 47, 104, 97, 108, 108, 47, 104, 97, 108, 108, 47, 104, 97, 108, 108, 47, 104, 97, 108, 108, 115]⟩] : List ByteArray) → s.size ≤ 100 := by decide
theorem names_le4 : ∀ s : ByteArray, s ∈ ([⟨#[97]⟩, ⟨#[97, 98]⟩, ⟨#[98]⟩, ⟨#[99]⟩, ⟨#[104, 97, 108, 108]⟩] : List ByteArray) → s.size ≤ 4 := by decide
theorem names_sz5 : ∀ s : ByteArray, s ∈ ([⟨#[97]⟩, ⟨#[97, 98]⟩, ⟨#[98]⟩, ⟨#[99]⟩, ⟨#[104, 97, 108, 108]⟩] : List ByteArray) → s.size ≤ 140737488351232 := by decide
end Go.Proofs.Ytoaebcjjfojfeaa
/- What is proved: three that act are ready in a region that draws: any may be the next. No condition. -/
namespace Go.Proofs.Ytoaebcjjfojfeaa
open Go Go.RowKit
section
variable {N : Nat} {w0 : World} {S0 : Bs} {F : Act → World → Prop} {T : Slots} {l lk : List Asn} {P : Program} {Q : Exit → Act → World → Prop} {K : Act → World → Prop} {ops : Array Oper} {last : Nat}
theorem FJ.fork3 {md : Region.Mode} {m : Nat} {listed : Array Bool} {i j k : Nat} (hr : (Region.ready md ops listed == [i, j, k]) = true)
    (hi : FJ N w0 S0 (wpSch P ops (NoPanic Q) (WS w0 S0 lk) last (wpL P md ops (NoPanic Q) (WS w0 S0 lk) last m (listed.setIfInBounds i true)) [(i, false)]) T l)
    (hj : FJ N w0 S0 (wpSch P ops (NoPanic Q) (WS w0 S0 lk) last (wpL P md ops (NoPanic Q) (WS w0 S0 lk) last m (listed.setIfInBounds j true)) [(j, false)]) T l)
    (hk : FJ N w0 S0 (wpSch P ops (NoPanic Q) (WS w0 S0 lk) last (wpL P md ops (NoPanic Q) (WS w0 S0 lk) last m (listed.setIfInBounds k true)) [(k, false)]) T l) :
    FJ N w0 S0 (wpL P md ops (NoPanic Q) (WS w0 S0 lk) last (m + 1) listed) T l := fun a w h1 h2 h3 h4 => by
  have e := eq_of_beq hr
  refine ⟨fun h0 => (by rw [e] at h0; cases h0), fun z hz => ?_⟩
  rw [e] at hz
  rcases List.mem_cons.1 hz with rfl | hz
  · exact hi a w h1 h2 h3 h4
  · rcases List.mem_cons.1 hz with rfl | hz
    · exact hj a w h1 h2 h3 h4
    · obtain rfl := List.mem_singleton.1 hz
      exact hk a w h1 h2 h3 h4
end
end Go.Proofs.Ytoaebcjjfojfeaa
/- What is proved: an element of a row of one's own, a struct, is read whole. No condition. -/
namespace Go.Proofs.Ytoaebcjjfojfeaa
open Go Go.RowKit
set_option linter.unusedVariables false
section
variable {w0 : World} {S0 : Bs} {l l' : List Asn}
theorem WS.oels {α : Type} {K : Kd α} {e by_ : Nat} {xs : List α} {ad : Addr} {n c j : Nat} {x : α} {cs : List Value} (hro : ∀ (w : World) (F : Bs) (ecs : List Value), K.ro w F x ecs → ecs = cs) (ht : Take l (ownA (kslice e by_ K) xs [.slice (some ad) n c]) l') (hx : xs[j]? = some x) : ∀ w, WS w0 S0 l w → ∀ (i : Nat) (u : Value), cs[i]? = some u → w.cell? ((ad.add (j * K.sz)).add i) = some u := fun w hw i u hu => by
  obtain ⟨S, hs, _, _⟩ := hw.take ht
  obtain ⟨A', c', h, _, _, _, h4⟩ := ro_form ((kslice e by_ K).own_ro (show (kslice e by_ K).own w S xs _ from hs.head))
  obtain ⟨ad', ha, hr⟩ := h4 (by have := (List.getElem?_eq_some_iff.1 hx).1; omega)
  injection h with g1 g2 g3
  rw [ha] at g1
  obtain rfl := Option.some.inj g1
  obtain ⟨ecs, h5, h6⟩ := hr.2 j x hx
  obtain rfl := hro _ _ _ h5
  rw [add_add]
  exact h6 i u hu
end
end Go.Proofs.Ytoaebcjjfojfeaa
/- What is proved: how long what is packed gets, of inodes that may be faulty; packed and unpacked again. Plain Lean. No condition. -/
namespace Go.Proofs.Ytoaebcjjfojfeaa
open Go Go.RowKit
set_option linter.unusedVariables false
set_option linter.unusedSimpArgs false
def PackOk (x : DInode) : Prop := (∀ (j : Nat) e, x.ents[j]? = some e → e.name.size ≤ 4) ∧ x.ents.length ≤ 6 ∧ x.blocks.length ≤ 10
theorem pack_names : ∀ {es : List DEnt}, (∀ e, e ∈ es → e.name.size ≤ 4) → (packL es).length ≤ 6 * es.length
  | [], _ => by simp [packL]
  | e :: es, h => by
    have h1 := h e (by simp)
    have h2 := pack_names (es := es) (fun x hx => h x (by simp [hx]))
    have h3 := str_len e.name
    rw [packL_cons]
    simp only [List.length_cons, List.length_append, List.length_map]
    omega
theorem packTo_lenW {x : DInode} (h : PackOk x) (k : Nat) : (packTo x k).length ≤ 50 := by
  obtain ⟨h1, h2, h3⟩ := h
  have h4 := pack_names (es := x.ents.take k) (fun e he => by
    obtain ⟨j, hj⟩ := List.getElem?_of_mem (List.mem_of_mem_take he)
    exact h1 j e hj)
  unfold packL at h4
  have h5 : (x.ents.take k).length ≤ x.ents.length := by rw [List.length_take]; omega
  unfold packTo
  simp only [List.length_append, List.length_cons, List.length_nil]
  omega
theorem name_sizeW {x : DInode} (h : PackOk x) {j : Nat} {e : DEnt} (he : x.ents[j]? = some e) : e.name.size ≤ 4 := h.1 j e he
theorem packI_lenW {x : DInode} (h : PackOk x) : (packI x).length ≤ 50 := by
  unfold packI
  split
  · exact packTo_lenW h _
  · have := h.2.2
    simp only [List.length_append, List.length_cons, List.length_nil]; omega
theorem packI_3 (x : DInode) : 3 ≤ (packI x).length := by
  unfold packI packTo
  split <;> simp only [List.length_append, List.length_cons, List.length_nil] <;> omega
theorem byteI_inj {a b : List UInt8} (h : a.map byteI = b.map byteI) : a = b := by
  induction a generalizing b with
  | nil => cases b with
    | nil => rfl
    | cons => simp at h
  | cons x a ih => cases b with
    | nil => simp at h
    | cons y b =>
      simp only [List.map_cons, List.cons.injEq, byteI] at h
      rw [ih h.2, show x = y from UInt8.toNat_inj.1 (by omega)]
theorem packL_inj : ∀ {es fs : List DEnt}, packL es = packL fs → es = fs
  | [], [], _ => rfl
  | [], f :: fs, h => by rw [packL_cons] at h; simp [packL] at h
  | e :: es, [], h => by rw [packL_cons] at h; simp [packL] at h
  | e :: es, f :: fs, h => by
    rw [packL_cons, packL_cons] at h
    simp only [List.cons.injEq] at h
    obtain ⟨h1, h2, h3⟩ := h
    have hl : (e.name.data.toList.map byteI).length = (f.name.data.toList.map byteI).length := by
      have a1 := str_len e.name
      have a2 := str_len f.name
      simp only [List.length_map]; omega
    obtain ⟨h4, h5⟩ := List.append_inj h3 hl
    have h6 := byteI_inj h4
    have h7 : e.name = f.name := by rw [← bstr_data' e.name, ← bstr_data' f.name, h6]
    have h8 := packL_inj h5
    cases e; cases f
    simp only at h1 h7
    subst h1; subst h7; subst h8
    rfl
theorem vd_inj {ws : List Int} {x y : DInode} (hx : Vd ws x) (hy : Vd ws y) : x = y := by
  obtain ⟨a0, a1, a2⟩ := vd_head hx
  obtain ⟨b0, b1, b2⟩ := vd_head hy
  rw [a0] at b0; rw [a1] at b1; rw [a2] at b2
  have e0 := Option.some.inj b0
  have e1 := Option.some.inj b1
  have e2 := Option.some.inj b2
  by_cases hk : x.kind = 2
  · obtain ⟨c1, c2⟩ := vd_dir hx hk
    obtain ⟨d1, d2⟩ := vd_dir hy (by omega)
    rw [c1] at d1
    simp only [List.cons.injEq] at d1
    have := packL_inj d1.2.2.2.2
    cases x; cases y
    simp only at e0 e1 e2 c2 d2 this
    subst e0; subst e1; subst e2; subst c2; subst d2; subst this
    rfl
  · obtain ⟨c1, c2⟩ := vd_file hx hk
    obtain ⟨d1, d2⟩ := vd_file hy (by omega)
    rw [c1] at d1
    simp only [List.cons.injEq] at d1
    have := d1.2.2.2
    cases x; cases y
    simp only at e0 e1 e2 c2 d2 this
    subst e0; subst e1; subst e2; subst c2; subst d2; subst this
    rfl
theorem unp_pack {x : DInode} (h : inodeFault x = 0) : unpI (packI x) = some x :=
  unp_y (ok := true) (fun y hy => ⟨rfl, vd_inj ⟨h, rfl⟩ hy⟩) h rfl
end Go.Proofs.Ytoaebcjjfojfeaa
/- What is proved: small laws for drawn inodes. No condition. -/
namespace Go.Proofs.Ytoaebcjjfojfeaa
open Go
theorem inodes_snoc {xs : List DInode} {x : DInode} (h : inodesFault xs = 0) (hx : inodeFault x = 0) (hl : (xs.length : Int) ≤ 9) : inodesFault (xs ++ [x]) = 0 := by
  refine inodesFault_0 (by simp only [List.length_append, List.length_cons, List.length_nil]; omega) fun j y _ hy => ?_
  have hm := List.mem_of_getElem? hy
  rcases List.mem_append.1 hm with hm | hm
  · exact inodes_all h y hm
  · obtain rfl := List.mem_singleton.1 hm; exact hx
theorem set_in {bs : List Int} {j : Nat} {v : Int} (h : ∀ b, b ∈ bs → 0 ≤ b ∧ b ≤ 19) (hv : 0 ≤ v ∧ v ≤ 19) : ∀ b, b ∈ bs.set j v → 0 ≤ b ∧ b ≤ 19 := fun b hb => by
  rcases List.mem_or_eq_of_mem_set hb with hb | rfl
  · exact h b hb
  · exact hv
end Go.Proofs.Ytoaebcjjfojfeaa
/- What is proved: nothing: weights and marks of the data types. No condition. -/
namespace Go.Proofs.Ytoaebcjjfojfeaa
set_option linter.unusedVariables false
def wt_DEnt (x : DEnt) : Nat := x.name.size + 0
def cnt_DEnt (x : DEnt) : Nat := 1 + 1
def mark_DEnt (n : Int) (x : DEnt) : DEnt := ⟨(mtext n), (n + 1)⟩
def vcnt_DEnt (x : DEnt) : Nat := 0 + 0
def vmark_DEnt (n : Int) (x : DEnt) : DEnt := ⟨x.name, x.ino⟩
def wt_DInode (x : DInode) : Nat := 0 + 0 + 0 + x.blocks.length + (x.ents.length + sumF wt_DEnt x.ents)
def cnt_DInode (x : DInode) : Nat := 1 + 1 + 1 + x.blocks.length + (sumF cnt_DEnt x.ents)
def mark_DInode (n : Int) (x : DInode) : DInode := ⟨n, (n + 1), (n + 1 + 1), ((markL (fun _ => 1) (fun m _ => m)) (n + 1 + 1 + 1) x.blocks), ((markL cnt_DEnt mark_DEnt) (n + 1 + 1 + 1 + (x.blocks.length : Int)) x.ents)⟩
def vcnt_DInode (x : DInode) : Nat := 0 + 0 + 0 + x.blocks.length + (sumF cnt_DEnt x.ents)
def vmark_DInode (n : Int) (x : DInode) : DInode := ⟨x.kind, x.links, x.size, ((markL (fun _ => 1) (fun m _ => m)) n x.blocks), ((markL cnt_DEnt mark_DEnt) (n + (x.blocks.length : Int)) x.ents)⟩
def wt_DFs (x : DFs) : Nat := (x.inodes.length + sumF wt_DInode x.inodes) + (x.data.length + sumF (fun x => x.length) x.data)
def cnt_DFs (x : DFs) : Nat := (sumF cnt_DInode x.inodes) + (sumF (fun x => x.length) x.data)
def mark_DFs (n : Int) (x : DFs) : DFs := ⟨((markL cnt_DInode mark_DInode) n x.inodes), ((markL (fun x => x.length) (markL (fun _ => 1) (fun m _ => mbyte m))) (n + ((sumF cnt_DInode x.inodes) : Int)) x.data)⟩
def vcnt_DFs (x : DFs) : Nat := (sumF cnt_DInode x.inodes) + (sumF (fun x => x.length) x.data)
def vmark_DFs (n : Int) (x : DFs) : DFs := ⟨((markL cnt_DInode mark_DInode) n x.inodes), ((markL (fun x => x.length) (markL (fun _ => 1) (fun m _ => mbyte m))) (n + ((sumF cnt_DInode x.inodes) : Int)) x.data)⟩
def wt_RInt (x : RInt) : Nat := 0 + 0
def cnt_RInt (x : RInt) : Nat := 1 + 1
def mark_RInt (n : Int) (x : RInt) : RInt := ⟨n, (n + 1)⟩
def vcnt_RInt (x : RInt) : Nat := 0 + 0
def vmark_RInt (n : Int) (x : RInt) : RInt := ⟨x.code, x.val⟩
def wt_RInts (x : RInts) : Nat := 0 + x.list.length
def cnt_RInts (x : RInts) : Nat := 1 + x.list.length
def mark_RInts (n : Int) (x : RInts) : RInts := ⟨n, ((markL (fun _ => 1) (fun m _ => m)) (n + 1) x.list)⟩
def vcnt_RInts (x : RInts) : Nat := 0 + x.list.length
def vmark_RInts (n : Int) (x : RInts) : RInts := ⟨x.code, ((markL (fun _ => 1) (fun m _ => m)) n x.list)⟩
def wt_RInode (x : RInode) : Nat := 0 + (wt_DInode x.inode)
def cnt_RInode (x : RInode) : Nat := 1 + (cnt_DInode x.inode)
def mark_RInode (n : Int) (x : RInode) : RInode := ⟨n, (mark_DInode (n + 1) x.inode)⟩
def vcnt_RInode (x : RInode) : Nat := 0 + (vcnt_DInode x.inode)
def vmark_RInode (n : Int) (x : RInode) : RInode := ⟨x.code, (vmark_DInode n x.inode)⟩
def wt_DSrc (x : DSrc) : Nat := x.code.length + 0
def cnt_DSrc (x : DSrc) : Nat := x.code.length + 1
def mark_DSrc (n : Int) (x : DSrc) : DSrc := ⟨((markL (fun _ => 1) (fun m _ => mbyte m)) n x.code), (n + (x.code.length : Int))⟩
def vcnt_DSrc (x : DSrc) : Nat := x.code.length + 0
def vmark_DSrc (n : Int) (x : DSrc) : DSrc := ⟨((markL (fun _ => 1) (fun m _ => mbyte m)) n x.code), x.at_⟩
end Go.Proofs.Ytoaebcjjfojfeaa
/- What is proved: one element of a slice of one's own, taken out and put back; a part of a slice of one's own, read; a row's cells as a slice of structs. No condition. -/
namespace Go.Proofs.Ytoaebcjjfojfeaa
open Go Go.RowKit
set_option linter.unusedVariables false
set_option linter.unusedSimpArgs false
theorem seqA_at {α : Type} {K : Kd α} : ∀ {xs : List α} {css : List (List Value)} {j : Nat} {x : α} {c : List Value}, xs[j]? = some x → css[j]? = some c → seqA K xs css = seqA K (xs.take j) (css.take j) ++ ownA K x c :: seqA K (xs.drop (j + 1)) (css.drop (j + 1))
  | [], _, _, _, _, hx, _ => by simp at hx
  | _, [], _, _, _, _, hc => by simp at hc
  | y :: xs, d :: css, 0, x, c, hx, hc => by
    simp at hx hc
    subst hx; subst hc
    rfl
  | y :: xs, d :: css, j + 1, x, c, hx, hc => by
    have ih := seqA_at (K := K) (xs := xs) (css := css) (j := j) (x := x) (c := c) (by simpa using hx) (by simpa using hc)
    rw [seqA_cons, ih]
    rfl
theorem seq_split {α : Type} {K : Kd α} {xs : List α} {css : List (List Value)} {j : Nat} {x : α} {c : List Value} (hx : xs[j]? = some x) (hc : css[j]? = some c) (w : World) (S : Bs) (h : (seqC K xs css).p w S) : Star [ownA K x c, seqC K (xs.take j) (css.take j), seqC K (xs.drop (j + 1)) (css.drop (j + 1))] w S := by
  have h1 : Star (seqA K xs css) w S := h
  rw [seqA_at hx hc] at h1
  obtain ⟨A, B, hA, ⟨B1, B2, h2, h3, i1, i2, d1⟩, i, k, d⟩ := h1.split
  exact ⟨B1, fun b => A b ∨ B2 b, h2, ⟨A, B2, hA, Star.one (c := seqC K _ _) h3, fun _ h => .inl h, fun _ h => .inr h, fun b ha hb => d b ha (i2 b hb)⟩, fun b hb => k b (i1 b hb), fun b hb => hb.elim (i b) (fun h => k b (i2 b h)), fun b hb hb2 => hb2.elim (fun h => d b h (i1 b hb)) (d1 b hb)⟩
theorem seq_join {α : Type} {K : Kd α} {xs : List α} {css : List (List Value)} {j : Nat} {x : α} {c : List Value} (hx : xs[j]? = some x) (hc : css[j]? = some c) (w : World) (S : Bs) (h : Star [ownA K x c, seqC K (xs.take j) (css.take j), seqC K (xs.drop (j + 1)) (css.drop (j + 1))] w S) : (seqC K xs css).p w S := by
  obtain ⟨B1, C, h2, ⟨A, B2, hA, h3, i1, i2, d1⟩, i, k, d⟩ := h
  show Star (seqA K xs css) w S
  rw [seqA_at hx hc]
  have h3' : Star (seqA K (xs.drop (j + 1)) (css.drop (j + 1))) w B2 := Star.head (c := seqC K _ _) h3
  exact Star.app hA ⟨B1, B2, h2, h3', fun _ h => .inl h, fun _ h => .inr h, fun b hb hb2 => d b hb (i2 b hb2)⟩ (S2 := fun b => B1 b ∨ B2 b) (fun b hb => k b (i1 b hb)) (fun b hb => hb.elim (i b) (fun h => k b (i2 b h))) (fun b ha hb => hb.elim (fun h => d b h (i1 b ha)) (d1 b ha))
theorem css_same {css : List (List Value)} {j : Nat} {c : List Value} (h : css[j]? = some c) : css = css.set j c := by
  obtain ⟨hj, rfl⟩ := List.getElem?_eq_some_iff.1 h
  exact (List.set_getElem_self hj).symm
theorem own_unfocus {α : Type} {K : Kd α} {e by_ : Nat} {xs : List α} {css css' : List (List Value)} {j : Nat} {x : α} {c : List Value} {v : Value} (hl : css.length = xs.length) (hj : j < xs.length) (he : css' = css.set j c) (w : World) (S : Bs)
    (h : Star [ownA (kslice e by_ (kraw K.sz K.pos)) css' [v], ownA K x c, seqC K (xs.take j) (css.take j), seqC K (xs.drop (j + 1)) (css.drop (j + 1))] w S) : (ownA (kslice e by_ K) (xs.set j x) [v]).p w S := by
  subst he
  obtain ⟨A, B, hA, hB, i, k, d⟩ := h
  refine raw_own (xs := xs.set j x) (css := css.set j c) (by rw [List.length_set, List.length_set]; exact hl) w S ⟨A, B, hA, Star.one (c := seqC K _ _) (seq_join (j := j) (x := x) (c := c) (by rw [List.getElem?_set_self hj]) (by rw [List.getElem?_set_self (by omega)]) w B ?_), i, k, d⟩
  rw [List.take_set_of_le (Nat.le_refl j), List.take_set_of_le (Nat.le_refl j), List.drop_set_of_lt (Nat.lt_succ_self j), List.drop_set_of_lt (Nat.lt_succ_self j)]
  exact hB
theorem own_unfocus0 {α : Type} {K : Kd α} {e by_ : Nat} {xs : List α} {css : List (List Value)} {j : Nat} {x : α} {c : List Value} {v : Value} (hl : css.length = xs.length) (hx : xs[j]? = some x) (hc : css[j]? = some c) (w : World) (S : Bs)
    (h : Star [ownA (kslice e by_ (kraw K.sz K.pos)) css [v], ownA K x c, seqC K (xs.take j) (css.take j), seqC K (xs.drop (j + 1)) (css.drop (j + 1))] w S) : (ownA (kslice e by_ K) xs [v]).p w S := by
  obtain ⟨A, B, hA, hB, i, k, d⟩ := h
  exact raw_own hl w S ⟨A, B, hA, Star.one (c := seqC K _ _) (seq_join hx hc w B hB), i, k, d⟩
/-- A row of one element's cells, and what it owns. -/
theorem lit1_own {α : Type} {K : Kd α} {e by_ g sz : Nat} {x : α} {cs : List Value} (hsz : K.sz = sz) (hl : cs.length = sz) (hb : by_ ≤ 140737488355328) (w : World) (S : Bs) (h : Star [rowA g e sz 1 cs, ownA K x cs] w S) : (ownA (kslice e by_ K) [x] [.slice (some ⟨g, 0, none⟩) 1 1]).p w S := by
  subst hsz
  obtain ⟨A, B, hA, hB, i, k, d⟩ := h
  exact .inr ⟨g, 1, [cs], rfl, Nat.le_refl _, by omega, by simpa using hb, rfl, A, B, by simpa using hA, ⟨B, fun _ => False, Star.head (c := ownA K x cs) hB, trivial, fun _ h => h, fun _ h => h.elim, fun _ _ h => h⟩, i, k, d⟩
theorem Tr.ptrpre {w0 : World} {S0 : Bs} {l' : List Asn} {α : Type} {K : Kd α} {w : World} {S1 : Bs} {lr : List Asn} {g e sz c : Nat} {ecs cs : List Value} {x : α} (tr : Tr w0 S0 w S1 lr) (tk : Take lr (rowA g e sz c ecs) l') (hr : K.ro w (FF w S1) x cs) (hs : ∀ (i : Nat) (u : Value), cs[i]? = some u → ecs[i]? = some u) : PtrRo K w (FF w S1) ⟨g, 0, none⟩ x := by
  obtain ⟨S2, hst, hsub⟩ := tr.all
  have h := (hst.take tk).head
  refine ⟨cs, hsub _ h.1, hr, fun i u hu => ?_⟩
  rw [add_plain']
  exact row_cell h (hs i u hu)
theorem Tr.elw {w0 : World} {S0 : Bs} {α : Type} {K : Kd α} {w : World} {S1 : Bs} {lr : List Asn} {B : Addr} {ecs : List Value} {x : α} (tr : Tr w0 S0 w S1 lr) (hF : FF w0 S0 B.block) (hc : ∀ (i : Nat) (u : Value), ecs[i]? = some u → w0.cell? (B.add i) = some u) (hr : K.ro w (FF w S1) x ecs) : PtrRo K w (FF w S1) B x :=
  ⟨ecs, (tr.wide _ hF).1, hr, fun i u hu => (cell_loc (by rw [add_block]; exact (tr.wide _ hF).2)).trans (hc i u hu)⟩
section
variable {P : Program} {T : Slots} {Wd : World → Prop} {o : Oper}
theorem q_field {x : Operand} {s f : Nat} {v u : Value} (ho : o.op = .field s x f) (hx : Val T x v) (hs : ∀ w, (Instr.field s v f).run P w = .ok u w) : Quiet P o T Wd u := fun a w ha _ => by
  simp only [execOp, ho, hx a ha]; simp [hs w]
end
end Go.Proofs.Ytoaebcjjfojfeaa
/- What is proved: what a function owns, from some point on only read: a new base of its frame. No condition. -/
namespace Go.Proofs.Ytoaebcjjfojfeaa
open Go Go.RowKit
set_option linter.unusedVariables false
section
variable {N : Nat} {w0 : World} {S0 : Bs} {F : Act → World → Prop} {T : Slots} {l : List Asn} {P : Program}
theorem FJ.freeze {α : Type} {K : Kd α} {x : α} {cs : List Value} {l' : List Asn} (h : Take l (ownA K x cs) l')
    (k : ∀ (w1 : World) (S1 : Bs), (∀ {β : Type} {J : Kd β} {y : β} {ds : List Value}, J.ro w0 (FF w0 S0) y ds → J.ro w1 (FF w1 S1) y ds) → K.ro w1 (FF w1 S1) x cs → (∀ l w, WS w1 S1 l w → WS w0 S0 l w) → FJ N w1 S1 F T l') : FJ N w0 S0 F T l := by
  intro a w h1 h2 h3 h4
  obtain ⟨S, hs, hb, hf⟩ := h4.take h
  obtain ⟨A, B, hc, hl, iA, iB, d⟩ := hs
  have hc' := K.own_lt (show K.own w A x cs from hc)
  have hsub : ∀ b, FF w0 S0 b → FF w B b ∧ w.heap[b]? = w0.heap[b]? := fun b hF =>
    ⟨⟨Nat.lt_of_lt_of_le hF.1 hf.size, fun hB => (hb b (iB b hB)).elim hF.2 (fun h => absurd hF.1 (by omega))⟩, hf.block b hF.1 hF.2⟩
  refine k w B (fun {β} {J} {y} {ds} hr => J.ro_up (J.ro_loc hr fun b hF => (hsub b hF).2) fun b hF => (hsub b hF).1)
    (K.ro_up (K.own_ro hc') fun b hA => ⟨hA.2, fun hB => d b hA.1 hB⟩) (fun m w' hw => ?_) a w h1 h2 h3 ⟨B, hl, fun b hB => .inl hB, Fr.refl _ _⟩
  obtain ⟨S2, s1, s2, s3⟩ := hw
  exact ⟨S2, s1, fun b hS => (s2 b hS).elim (fun hB => hb b (iB b hB)) (fun hle => .inr (Nat.le_trans hf.size hle)), hf.trans s3 fun b hB => hb b (iB b hB)⟩
theorem FJ.upR {w1 : World} {S1 : Bs} {fn : Func} {R : Value → List Asn → Prop} (hup : ∀ l w, WS w1 S1 l w → WS w0 S0 l w) (k : FJ N w1 S1 (bodyPost P fn (TriPost w1 S1 R) .ret) T l) : FJ N w1 S1 (bodyPost P fn (TriPost w0 S0 R) .ret) T l := fun a w h1 h2 h3 h4 => by
  obtain ⟨hd, v, hr, r, m, he, hR, hw⟩ := k a w h1 h2 h3 h4
  exact ⟨hd, v, hr, r, m, he, hR, hup _ _ hw⟩
end
end Go.Proofs.Ytoaebcjjfojfeaa
/- What is proved: what is picked is free, of nobody and not busy: plain Lean. No condition. -/
namespace Go.Proofs.Ytoaebcjjfojfeaa
open Go
set_option linter.unusedVariables false
theorem free_law {xs : List DInode} {b : List Int} {n : Int} :
    ((pickR xs b n).code = 0 → (freeR xs b).code = 0 ∧ ((pickR xs b n).list.length : Int) = n ∧ (0 ≤ n ∧ n ≤ ((freeR xs b).list.length : Int)) ∧ (pickR xs b n).list = (freeR xs b).list.take n.toNat) ∧
    (∀ (i : Nat) v, (freeR xs b).list[i]? = some v → ¬ v ∈ b ∧ ¬ v ∈ usedL xs) ∧
    (∀ (i : Nat) v w, (freeR xs b).list[i]? = some v → (freeR xs b).list[i + 1]? = some w → v < w) := by
  refine ⟨fun h => ?_, fun i v hv => ?_, fun i v w hv hw => ?_⟩
  · by_cases ha : askFault xs b = 0
    · have ef : freeR xs b = ⟨0, freeTo xs b⟩ := if_pos ha
      have ep : pickR xs b n = pickOf xs b n := if_pos ha
      rw [ep] at h ⊢
      rw [ef]
      unfold pickOf at h ⊢
      by_cases hn : 0 ≤ n ∧ n ≤ 4
      · rw [if_pos hn] at h ⊢
        by_cases hl : ((freeTo xs b).length : Int) < n
        · rw [if_pos hl] at h; exact absurd h (by decide)
        · rw [if_neg hl]
          refine ⟨rfl, ?_, ⟨hn.1, by dsimp only; omega⟩, rfl⟩
          simp only [List.length_take]; omega
      · rw [if_neg hn] at h; exact absurd h (by decide)
    · have ep : pickR xs b n = ⟨askFault xs b, []⟩ := if_neg ha
      rw [ep] at h; exact absurd h ha
  · have hm := List.mem_of_getElem? hv
    unfold freeR at hm
    split at hm
    · have := (placesTo_mem.1 (show v ∈ placesTo (freeP xs b) 20 from hm)).2
      simp only [freeP, decide_eq_true_iff] at this
      exact ⟨this.2, this.1⟩
    · simp at hm
  · unfold freeR at hv hw
    split at hv
    · rename_i ha
      rw [if_pos ha] at hw
      have hp := placesTo_lt (p := freeP xs b) (k := 20)
      obtain ⟨h1, h2⟩ := List.getElem?_eq_some_iff.1 (show (placesTo (freeP xs b) 20)[i]? = some v from hv)
      obtain ⟨h3, h4⟩ := List.getElem?_eq_some_iff.1 (show (placesTo (freeP xs b) 20)[i + 1]? = some w from hw)
      rw [← h2, ← h4]
      exact List.pairwise_iff_getElem.1 hp i (i + 1) h1 h3 (by omega)
    · simp at hv
theorem used_of {xs : List DInode} {k : Nat} {x : DInode} {v : Int} (hx : xs[k]? = some x) (hv : v ∈ x.blocks) : v ∈ usedL xs := by
  unfold usedL
  first
    | exact List.mem_flatMap.2 ⟨x, List.mem_of_getElem? hx, hv⟩
    | exact List.mem_flatten.2 ⟨x.blocks, List.mem_map.2 ⟨x, List.mem_of_getElem? hx, rfl⟩, hv⟩
end Go.Proofs.Ytoaebcjjfojfeaa

/- What is proved: an inode read back from its words, in plain Lean. No condition. -/
import Derived.Test.YtoaebcjjfojfeaaBase1
namespace Go.Proofs.Ytoaebcjjfojfeaa
open Go Go.RowKit
set_option linter.unusedVariables false
set_option linter.unusedSimpArgs false
theorem ro_hl {α : Type} {K : Kd α} {e by_ : Nat} {w : World} {F : Bs} {xs : List α} {A : Option Addr} {n c : Nat} (h : (kslice e by_ K).ro w F xs [.slice A n c]) : n = xs.length ∧ xs.length ≤ c ∧ c ≤ 9223372036854775807 := by
  obtain ⟨A', c', hv, h1, h2, _, _⟩ := ro_form h
  injection hv with e1 e2 e3
  subst e3
  exact ⟨e2, h1, h2⟩
theorem subL_end {α : Type} (xs : List α) (a : Nat) : subL xs a xs.length = xs.drop a := by simp [subL]
def Vd (ws : List Int) (y : DInode) : Prop := inodeFault y = 0 ∧ packI y = ws
/-- What has been read is the inode of these words, if they are an inode's. -/
def Dec (ws : List Int) (x : DInode) (ok : Bool) : Prop := ∀ y, Vd ws y → ok = true ∧ x = y
def packL (es : List DEnt) : List Int := (es.map packE).flatten
theorem packL_cons (e : DEnt) (es : List DEnt) : packL (e :: es) = e.ino :: (e.name.size : Int) :: (e.name.data.toList.map byteI ++ packL es) := by simp [packL, packE]
theorem vd_file {ws : List Int} {y : DInode} (h : Vd ws y) (hk : ¬ y.kind = 2) : ws = y.kind :: y.links :: y.size :: y.blocks ∧ y.ents = [] := by
  refine ⟨by rw [← h.2, packI, if_neg hk]; rfl, ?_⟩
  have h1 := h.1
  unfold inodeFault at h1
  split at h1
  · split at h1
    · exact absurd h1 (by decide)
    · rename_i h2
      refine List.length_eq_zero_iff.1 (Classical.byContradiction fun h3 => h2 (.inr ⟨hk, h3⟩))
  · exact absurd h1 (by decide)
theorem vd_dir {ws : List Int} {y : DInode} (h : Vd ws y) (hk : y.kind = 2) : ws = y.kind :: y.links :: y.size :: (y.ents.length : Int) :: packL y.ents ∧ y.blocks = [] := by
  have hb : y.blocks = [] := by
    have h1 := h.1
    unfold inodeFault at h1
    split at h1
    · split at h1
      · exact absurd h1 (by decide)
      · rename_i h2
        exact List.length_eq_zero_iff.1 (Classical.byContradiction fun h3 => h2 (.inl ⟨by omega, fun hh => h3 hh.2.2⟩))
    · exact absurd h1 (by decide)
  refine ⟨?_, hb⟩
  rw [← h.2, packI, if_pos hk, packTo, hb, List.take_length]
  rfl
theorem vd_head {ws : List Int} {y : DInode} (h : Vd ws y) : ws[0]? = some y.kind ∧ ws[1]? = some y.links ∧ ws[2]? = some y.size := by
  by_cases hk : y.kind = 2
  · have := (vd_dir h hk).1; subst this; exact ⟨rfl, rfl, rfl⟩
  · have := (vd_file h hk).1; subst this; exact ⟨rfl, rfl, rfl⟩
theorem vd_len {ws : List Int} {y : DInode} (h : Vd ws y) : 3 ≤ ws.length := by
  have := (List.getElem?_eq_some_iff.1 (vd_head h).2.2).1
  omega
theorem dec_short {ws : List Int} (h : (ws.length : Int) < 3) {x : DInode} {ok : Bool} : Dec ws x ok := fun y hy => absurd (vd_len hy) (by omega)
theorem dec_file {ws : List Int} {k l s : Int} (h0 : ws[0]? = some k) (h1 : ws[1]? = some l) (h2 : ws[2]? = some s) (hk : ¬ k = 2) : Dec ws ⟨k, l, s, ws.drop 3, []⟩ true := fun y hy => by
  obtain ⟨g0, g1, g2⟩ := vd_head hy
  rw [h0] at g0; rw [h1] at g1; rw [h2] at g2
  obtain rfl := Option.some.inj g0; obtain rfl := Option.some.inj g1; obtain rfl := Option.some.inj g2
  obtain ⟨hw, he⟩ := vd_file hy hk
  refine ⟨rfl, ?_⟩
  cases y with
  | mk a b c d e =>
    simp only at hw he
    subst he
    rw [hw]
    rfl
theorem dec_e {ws : List Int} {k : Int} (h0 : ws[0]? = some k) (hk : k = 2) (hl : ws.length ≤ 3) {x : DInode} {ok : Bool} : Dec ws x ok := fun y hy => by
  have g0 := (vd_head hy).1
  rw [h0] at g0
  obtain rfl := Option.some.inj g0
  have := (vd_dir hy hk).1
  rw [this] at hl
  simp at hl
def RI (y : DInode) (E : List DEnt) (q : List Int) : Prop := E.length ≤ y.ents.length ∧ E = y.ents.take E.length ∧ q = packL (y.ents.drop E.length)
theorem ri_0 {ws : List Int} {k : Int} (h0 : ws[0]? = some k) (hk : k = 2) : ∀ y, Vd ws y → RI y [] (ws.drop 4) := fun y hy => by
  have g0 := (vd_head hy).1
  rw [h0] at g0
  obtain rfl := Option.some.inj g0
  have := (vd_dir hy hk).1
  exact ⟨Nat.zero_le _, rfl, by rw [this]; rfl⟩
theorem ri_e {y : DInode} {E : List DEnt} {q : List Int} (h : RI y E q) (hq : 0 < q.length) : ∃ e, y.ents[E.length]? = some e ∧ q = e.ino :: (e.name.size : Int) :: (e.name.data.toList.map byteI ++ packL (y.ents.drop (E.length + 1))) := by
  obtain ⟨h1, h2, h3⟩ := h
  rcases Nat.lt_or_ge E.length y.ents.length with hl | hl
  · refine ⟨y.ents[E.length], List.getElem?_eq_getElem hl, ?_⟩
    rw [h3, List.drop_eq_getElem_cons hl, packL_cons]
  · rw [List.drop_eq_nil_of_le hl] at h3
    rw [h3] at hq
    simp [packL] at hq
theorem ri_bad {ws : List Int} {E : List DEnt} {q : List Int} (H : ∀ y, Vd ws y → RI y E q) (hq : 0 < q.length) (hb : (q.length : Int) < 2 ∨ ∃ v, q[1]? = some v ∧ (q.length : Int) - 2 < v) {x : DInode} {ok : Bool} : Dec ws x ok := fun y hy => by
  obtain ⟨e, he, hq2⟩ := ri_e (H y hy) hq
  exfalso
  have hs := str_len e.name
  rcases hb with hb | ⟨v, hv, hb⟩
  · rw [hq2] at hb; simp at hb; omega
  · rw [hq2] at hv hb
    simp at hv hb
    omega
theorem ri_byte {ws : List Int} {E : List DEnt} {q : List Int} (H : ∀ y, Vd ws y → RI y E q) (hq : 0 < q.length) {n v : Int} {j : Nat} (hn : q[1]? = some n) (hj : (j : Int) < n) (hv : q[2 + j]? = some v) : ∀ y, Vd ws y → ∃ e b, y.ents[E.length]? = some e ∧ (e.name.size : Int) = n ∧ e.name.data.toList[j]? = some b ∧ v = (b.toNat : Int) := fun y hy => by
  obtain ⟨e, he, hq2⟩ := ri_e (H y hy) hq
  have hs := str_len e.name
  rw [hq2] at hn hv
  simp at hn
  rw [show 2 + j = (j + 1) + 1 by omega] at hv
  simp only [List.getElem?_cons_succ] at hv
  rw [List.getElem?_append_left (by rw [List.length_map]; omega), List.getElem?_map] at hv
  cases hb : e.name.data.toList[j]? with
  | none => rw [hb] at hv; simp at hv
  | some b => rw [hb] at hv; exact ⟨e, b, he, hn, hb, (Option.some.inj hv).symm⟩
theorem ri_255 {ws : List Int} {E : List DEnt} {q : List Int} (H : ∀ y, Vd ws y → RI y E q) (hq : 0 < q.length) {n v : Int} {j : Nat} (hn : q[1]? = some n) (hj : (j : Int) < n) (hv : q[2 + j]? = some v) (h : 255 < v) {x : DInode} {ok : Bool} : Dec ws x ok := fun y hy => by
  obtain ⟨e, b, _, _, _, rfl⟩ := ri_byte H hq hn hj hv y hy
  have := UInt8.toNat_lt b
  omega
theorem mbyte_nat (b : UInt8) : mbyte (b.toNat : Int) = b := by
  have := UInt8.toNat_lt b
  unfold mbyte
  rw [show ((b.toNat : Int) % 256).toNat = b.toNat by omega]
  simp
/-- Of the name so far. -/
def NI (ws : List Int) (E : List DEnt) (nm : ByteArray) (j : Nat) : Prop := ∀ y, Vd ws y → ∃ e, y.ents[E.length]? = some e ∧ nm = bstr (e.name.data.toList.take j)
theorem ni_0 {ws : List Int} {E : List DEnt} {q : List Int} (H : ∀ y, Vd ws y → RI y E q) (hq : 0 < q.length) : NI ws E ⟨#[]⟩ 0 := fun y hy => by
  obtain ⟨e, he, _⟩ := ri_e (H y hy) hq
  exact ⟨e, he, rfl⟩
theorem ni_s {ws : List Int} {E : List DEnt} {q : List Int} {nm : ByteArray} (H : ∀ y, Vd ws y → RI y E q) (hq : 0 < q.length) {n v : Int} {j : Nat} (hn : q[1]? = some n) (hj : (j : Int) < n) (hv : q[2 + j]? = some v) (h : NI ws E nm j) : NI ws E (nm ++ bstr [mbyte v]) (j + 1) := fun y hy => by
  obtain ⟨e, b, he, _, hb, rfl⟩ := ri_byte H hq hn hj hv y hy
  obtain ⟨e', he', hnm⟩ := h y hy
  rw [he] at he'
  obtain rfl := Option.some.inj he'
  refine ⟨e, he, ?_⟩
  rw [hnm, mbyte_nat, List.take_add_one, hb]
  apply ByteArray.ext
  simp [bstr]
theorem bstr_data' (s : ByteArray) : bstr s.data.toList = s := by cases s; simp [bstr]
theorem ri_s {ws : List Int} {E : List DEnt} {q : List Int} {nm : ByteArray} (H : ∀ y, Vd ws y → RI y E q) (hq : 0 < q.length) {n i : Int} {j m : Nat} (hi : q[0]? = some i) (hn : q[1]? = some n) (hj : ∀ y, Vd ws y → n ≤ (j : Int)) (hm : (m : Int) = 2 + n) (h : NI ws E nm j) : ∀ y, Vd ws y → RI y (E ++ [⟨nm, i⟩]) (q.drop m) := fun y hy => by
  obtain ⟨e, he, hq2⟩ := ri_e (H y hy) hq
  obtain ⟨h1, h2, h3⟩ := H y hy
  obtain ⟨e', he', hnm⟩ := h y hy
  rw [he] at he'
  obtain rfl := Option.some.inj he'
  have hs := str_len e.name
  have hjj := hj y hy
  rw [hq2] at hi hn
  simp at hi hn
  have e1 : (⟨nm, i⟩ : DEnt) = e := by
    rw [hnm, List.take_of_length_le (by omega), bstr_data', ← hi]
  have hel := (List.getElem?_eq_some_iff.1 he).1
  refine ⟨by simp; omega, ?_, ?_⟩
  · rw [e1, List.length_append, List.length_cons, List.length_nil, List.take_add_one, he, ← h2]
    rfl
  · rw [List.length_append, List.length_cons, List.length_nil, hq2, show m = (e.name.size + 1) + 1 by omega]
    simp only [List.drop_succ_cons]
    rw [List.drop_append_of_le_length (by rw [List.length_map]; omega), List.drop_of_length_le (by rw [List.length_map]; omega)]
    rfl
theorem ri_end {ws : List Int} {E : List DEnt} {q : List Int} {k l s : Int} (h0 : ws[0]? = some k) (h1 : ws[1]? = some l) (h2 : ws[2]? = some s) (hk : k = 2) (H : ∀ y, Vd ws y → RI y E q) (hq : q.length = 0) : Dec ws ⟨k, l, s, [], E⟩ true := fun y hy => by
  obtain ⟨g0, g1, g2⟩ := vd_head hy
  rw [h0] at g0; rw [h1] at g1; rw [h2] at g2
  obtain rfl := Option.some.inj g0; obtain rfl := Option.some.inj g1; obtain rfl := Option.some.inj g2
  obtain ⟨hw, hb⟩ := vd_dir hy hk
  obtain ⟨r1, r2, r3⟩ := H y hy
  have hl : y.ents.length ≤ E.length := Classical.byContradiction fun hn => by
    rw [List.drop_eq_getElem_cons (by omega), packL_cons] at r3
    rw [r3] at hq
    simp at hq
  refine ⟨rfl, ?_⟩
  rw [List.take_of_length_le hl] at r2
  cases y with
  | mk a b c d e => simp only at hb r2; subst hb; subst r2; rfl
/-- By the count that the words tell. -/
theorem ri_cnt {ws : List Int} {E : List DEnt} {q : List Int} {k l s n : Int} (h0 : ws[0]? = some k) (h1 : ws[1]? = some l) (h2 : ws[2]? = some s) (hk : k = 2) (h3 : (ws[3]?).getD 0 ≤ (E.length : Int)) (H : ∀ y, Vd ws y → RI y E q) : Dec ws ⟨k, l, s, [], E⟩ true := fun y hy => by
  obtain ⟨g0, g1, g2⟩ := vd_head hy
  rw [h0] at g0; rw [h1] at g1; rw [h2] at g2
  obtain rfl := Option.some.inj g0; obtain rfl := Option.some.inj g1; obtain rfl := Option.some.inj g2
  obtain ⟨hw, hb⟩ := vd_dir hy hk
  obtain ⟨r1, r2, r3⟩ := H y hy
  have hl : y.ents.length ≤ E.length := by rw [hw] at h3; simp at h3; exact h3
  refine ⟨rfl, ?_⟩
  rw [List.take_of_length_le hl] at r2
  cases y with
  | mk a b c d e => simp only at hb r2; subst hb; subst r2; rfl
/-! ### the whole -/
open Classical in
noncomputable def unpI (ws : List Int) : Option DInode := if h : ∃ y, Vd ws y then some (Classical.choose h) else none
theorem unp_y {ws : List Int} {x : DInode} {ok : Bool} (h : Dec ws x ok) (h1 : inodeFault x = 0) (h2 : packI x = ws) : unpI ws = some x := by
  have hv : ∃ y, Vd ws y := ⟨x, h1, h2⟩
  rw [unpI, dif_pos hv, (h _ (Classical.choose_spec hv)).2]
theorem unp_n {ws : List Int} {x : DInode} {ok : Bool} (h : Dec ws x ok) (hn : ¬ (ok = true ∧ inodeFault x = 0 ∧ packI x = ws)) : unpI ws = none := by
  rw [unpI, dif_neg]
  rintro ⟨y, hy⟩
  obtain ⟨h1, h2⟩ := h y hy
  exact hn ⟨h1, h2 ▸ hy.1, h2 ▸ hy.2⟩
abbrev zeroI : DInode := ⟨0, 0, 0, [], []⟩
noncomputable def unpR (ws : List Int) : RInode := if wordsFault ws = 0 then if ws.length = 0 then ⟨0, zeroI⟩ else match unpI ws with | some x => ⟨0, x⟩ | none => ⟨5, zeroI⟩ else ⟨wordsFault ws, zeroI⟩
theorem unpR_f {ws : List Int} (h : ¬ wordsFault ws = 0) : unpR ws = ⟨wordsFault ws, zeroI⟩ := if_neg h
theorem unpR_e {ws : List Int} (h : wordsFault ws = 0) (h2 : ws.length = 0) : unpR ws = ⟨0, zeroI⟩ := by rw [unpR, if_pos h, if_pos h2]
theorem unpR_n {ws : List Int} (h : wordsFault ws = 0) (h2 : ¬ ws.length = 0) (h3 : unpI ws = none) : unpR ws = ⟨5, zeroI⟩ := by rw [unpR, if_pos h, if_neg h2, h3]
theorem unpR_y {ws : List Int} (h : wordsFault ws = 0) (h2 : ¬ ws.length = 0) {x : DInode} (h3 : unpI ws = some x) : unpR ws = ⟨0, x⟩ := by rw [unpR, if_pos h, if_neg h2, h3]
theorem unpR_ok (ws : List Int) : inodeFault (unpR ws).inode = 0 := by
  unfold unpR
  have hz : inodeFault zeroI = 0 := by decide
  split
  · split
    · exact hz
    · split
      · rename_i x hx
        unfold unpI at hx
        split at hx
        · rename_i hv
          obtain rfl := Option.some.inj hx
          exact (Classical.choose_spec hv).1
        · cases hx
      · exact hz
  · exact hz
theorem words_in {ws : List Int} (h : wordsFault ws = 0) : ∀ v, v ∈ ws → 0 ≤ v ∧ v ≤ 65535 := by
  intro v hv
  refine Classical.byContradiction fun hn => ?_
  obtain ⟨k, hk⟩ := List.mem_iff_getElem?.1 hv
  have := wordsFault_3 (by have := words_64 h; omega) hk hn
  omega
theorem mem_subL {α : Type} {xs : List α} {a b : Nat} {v : α} (h : v ∈ subL xs a b) : v ∈ xs := List.mem_of_mem_take (List.mem_of_mem_drop h)
theorem mem_at {α : Type} {xs : List α} {k : Nat} {v : α} (h : xs[k]? = some v) : v ∈ xs := List.mem_of_getElem? h
/-! ### by places -/
def wd (ws : List Int) (k : Nat) : Int := (ws[k]?).getD 0
theorem wd_get {ws : List Int} {k : Nat} {v : Int} (h : ws[k]? = some v) : wd ws k = v := by rw [wd, h]; rfl
theorem wd_out {ws : List Int} {k : Nat} (h : ws.length ≤ k) : wd ws k = 0 := by rw [wd, List.getElem?_eq_none h]; rfl
theorem wd_rng {ws : List Int} (h : ∀ v, v ∈ ws → 0 ≤ v ∧ v ≤ 65535) (k : Nat) : 0 ≤ wd ws k ∧ wd ws k ≤ 65535 := by
  unfold wd
  cases hk : ws[k]? with
  | none => exact ⟨Int.le_refl _, by decide⟩
  | some v => exact h v (mem_at hk)
theorem vd_wd {ws : List Int} {y : DInode} (h : Vd ws y) : wd ws 0 = y.kind ∧ wd ws 1 = y.links ∧ wd ws 2 = y.size := ⟨wd_get (vd_head h).1, wd_get (vd_head h).2.1, wd_get (vd_head h).2.2⟩
theorem vd_kind {ws : List Int} {y : DInode} (h : Vd ws y) : 0 ≤ y.kind ∧ y.kind ≤ 2 := by
  have h1 := h.1
  unfold inodeFault at h1
  split at h1
  · assumption
  · exact absurd h1 (by decide)
theorem sdec_1 {ws : List Int} {k : Int} (h0 : ws[0]? = some k) (hk : k = 1) : Dec ws ⟨k, wd ws 1, wd ws 2, ws.drop 3, []⟩ true := fun y hy => by
  have hl := vd_len hy
  obtain ⟨a, ha⟩ := get_ex (xs := ws) (j := 1) (by omega)
  obtain ⟨b, hb⟩ := get_ex (xs := ws) (j := 2) (by omega)
  rw [wd_get ha, wd_get hb]
  exact dec_file h0 ha hb (by omega) y hy
theorem sdec_n {ws : List Int} {k : Int} (h0 : ws[0]? = some k) (hk : ¬ k = 2) (hn : ¬ (k = 1 ∧ 3 < ws.length)) : Dec ws ⟨k, wd ws 1, wd ws 2, [], []⟩ true := fun y hy => by
  have hl := vd_len hy
  have hy0 := (vd_head hy).1
  rw [h0] at hy0
  obtain rfl := Option.some.inj hy0
  obtain ⟨a, ha⟩ := get_ex (xs := ws) (j := 1) (by omega)
  obtain ⟨b, hb⟩ := get_ex (xs := ws) (j := 2) (by omega)
  rw [wd_get ha, wd_get hb]
  have hd : ws.drop 3 = [] := by
    by_cases h1 : y.kind = 1
    · exact List.drop_eq_nil_of_le (Classical.byContradiction fun h => hn ⟨h1, by omega⟩)
    · have hf := hy.1
      unfold inodeFault at hf
      have hb0 : y.blocks = [] := by
        split at hf
        · split at hf
          · exact absurd hf (by decide)
          · rename_i h2
            exact List.length_eq_zero_iff.1 (Classical.byContradiction fun h3 => h2 (.inl ⟨h1, fun hh => h3 hh.2.2⟩))
        · exact absurd hf (by decide)
      rw [(vd_file hy hk).1, hb0]
      rfl
  have := dec_file h0 ha hb hk y hy
  rwa [hd] at this
theorem ri_w0 {ws : List Int} {k : Int} (h0 : ws[0]? = some k) : k = 2 → ∀ y, Vd ws y → RI y [] (ws.drop 4) := fun hk => ri_0 h0 hk
theorem dropW_get {ws : List Int} {p j : Nat} : (ws.drop p)[j]? = ws[p + j]? := List.getElem?_drop
theorem ri_ew {ws : List Int} {y : DInode} {E : List DEnt} {p : Nat} (h : RI y E (ws.drop p)) (hp : p < ws.length) : ∃ e, y.ents[E.length]? = some e ∧ wd ws p = e.ino ∧ wd ws (p + 1) = (e.name.size : Int) ∧ ∀ (j : Nat) b, e.name.data.toList[j]? = some b → wd ws (p + 2 + j) = (b.toNat : Int) := by
  obtain ⟨e, he, hq⟩ := ri_e h (by rw [List.length_drop]; omega)
  have key : ∀ j, ws[p + j]? = (e.ino :: (e.name.size : Int) :: (e.name.data.toList.map byteI ++ packL (y.ents.drop (E.length + 1))))[j]? := fun j => by rw [← hq, dropW_get]
  refine ⟨e, he, wd_get (by simpa using key 0), wd_get (by simpa using key 1), fun j b hb => ?_⟩
  refine wd_get ?_
  have := key (j + 1 + 1)
  rw [show p + (j + 1 + 1) = p + 2 + j by omega] at this
  rw [this]
  simp only [List.getElem?_cons_succ]
  have hj := (List.getElem?_eq_some_iff.1 hb).1
  rw [List.getElem?_append_left (by rw [List.length_map]; exact hj), List.getElem?_map, hb]
  rfl
theorem ni_w0 {ws : List Int} {E : List DEnt} {p : Nat} (H : ∀ y, Vd ws y → RI y E (ws.drop p)) (hp : p < ws.length) : NI ws E ⟨#[]⟩ 0 := ni_0 H (by rw [List.length_drop]; omega)
theorem tmod_b (b : UInt8) : Int.tmod (b.toNat : Int) 256 = (b.toNat : Int) := by
  have := UInt8.toNat_lt b
  rw [Int.tmod_eq_emod_of_nonneg (by omega)]
  omega
theorem ni_w {ws : List Int} {E : List DEnt} {p j : Nat} {nm : ByteArray} (H : ∀ y, Vd ws y → RI y E (ws.drop p)) (hp : p < ws.length) (hj : (j : Int) < wd ws (p + 1)) (h : NI ws E nm j) : NI ws E (nm ++ bstr [mbyte (Int.tmod (wd ws (p + 2 + j)) 256)]) (j + 1) := fun y hy => by
  obtain ⟨e, he, _, h2, h3⟩ := ri_ew (H y hy) hp
  obtain ⟨e', he', hnm⟩ := h y hy
  rw [he] at he'
  obtain rfl := Option.some.inj he'
  have hs := str_len e.name
  obtain ⟨b, hb⟩ := get_ex (xs := e.name.data.toList) (j := j) (by omega)
  refine ⟨e, he, ?_⟩
  rw [hnm, h3 j b hb, tmod_b, mbyte_nat, List.take_add_one, hb]
  apply ByteArray.ext
  simp [bstr]
theorem ri_w {ws : List Int} {E : List DEnt} {p j : Nat} {nm : ByteArray} (H : ∀ y, Vd ws y → RI y E (ws.drop p)) (hp : p < ws.length) (hj : j = 0 ∨ (j : Int) ≤ wd ws (p + 1)) (hx : wd ws (p + 1) ≤ (j : Int) ∨ 8 ≤ j) (h : NI ws E nm j) : ∀ y, Vd ws y → RI y (E ++ [⟨nm, wd ws p⟩]) (ws.drop (p + 2 + j)) := fun y hy => by
  obtain ⟨e, he, h1, h2, h3⟩ := ri_ew (H y hy) hp
  have h4 := name_size hy.1 he
  have hje : (j : Int) = (e.name.size : Int) := by omega
  have hq : 0 < (ws.drop p).length := by rw [List.length_drop]; omega
  obtain ⟨i, hi⟩ := get_ex (xs := ws.drop p) (j := 0) (by omega)
  have hi' := hi
  rw [dropW_get, Nat.add_zero] at hi'
  have hl : 1 < (ws.drop p).length := by
    obtain ⟨e2, _, hq2⟩ := ri_e (H y hy) hq
    rw [hq2]
    simp
  obtain ⟨n, hn⟩ := get_ex (xs := ws.drop p) (j := 1) hl
  have hn' := hn
  rw [dropW_get] at hn'
  have hnn : n = (j : Int) := by rw [hje, ← h2, wd_get hn']
  have := ri_s (m := 2 + j) H hq hi hn (fun y hy => by omega) (by omega) h y hy
  rw [wd_get hi', show p + 2 + j = p + (2 + j) by omega, ← List.drop_drop]
  exact this
theorem sdec_k {ws : List Int} {k : Int} {E : List DEnt} {p : Nat} (h0 : ws[0]? = some k) (hk : k = 2) (H : ∀ y, Vd ws y → RI y E (ws.drop p)) (h : wd ws 3 ≤ (E.length : Int) ∨ ws.length ≤ p) : Dec ws ⟨k, wd ws 1, wd ws 2, [], E⟩ true := fun y hy => by
  have hl := vd_len hy
  obtain ⟨a, ha⟩ := get_ex (xs := ws) (j := 1) (by omega)
  obtain ⟨b, hb⟩ := get_ex (xs := ws) (j := 2) (by omega)
  rw [wd_get ha, wd_get hb]
  rcases h with h | h
  · exact ri_cnt (n := 0) h0 ha hb hk h H y hy
  · exact ri_end h0 ha hb hk H (by rw [List.length_drop]; omega) y hy
end Go.Proofs.Ytoaebcjjfojfeaa
/- What is proved: results of which one lies in memory. No condition. -/
namespace Go.Proofs.Ytoaebcjjfojfeaa
open Go Go.RowKit
set_option linter.unusedVariables false
set_option linter.unusedSimpArgs false
section
variable {w0 : World} {S0 : Bs} {T : Slots} {l : List Asn} {P : Program}
theorem res_ct {fn : Func} {s ty u : Nat} {ad : Addr} {cs : List Value} {v : Value} (hr : fn.results = #[.cell s ty, .tmp u]) (h : Get T (s, .pointer (some ad))) (hg : AggIs P ty true) (hi : (P.info? ty).map (·.size) = some cs.length)
    (hc : ∀ w, WS w0 S0 l w → ∀ (i : Nat) (u : Value), cs[i]? = some u → w.cell? (ad.add i) = some u) (k : Get T (u, v)) : ∀ (a : Act) (w : World), Holds T a → WS w0 S0 l w → (results fn a.tmps).run P w = .ok (.tuple #[.agg cs.toArray, v]) w := fun a w ha hw => by
  obtain ⟨d, ht, hd⟩ := hg.ex
  have hag := run_isAgg ht w
  rw [hd] at hag
  obtain ⟨i0, h1, h2⟩ := Option.map_eq_some_iff.1 hi
  have hl := run_loadCells_list (P := P) w ad cs (hc w hw)
  have e1 := slot_of h ha
  have e2 := slot_of k ha
  simp only [Array.getD_eq_getD_getElem?] at e1 e2
  simp [results, hr, e1, e2, asAddr, loadVar, Sem.run_bind, hag, sizeOf, typeInfo, h1, h2, hl]
end
end Go.Proofs.Ytoaebcjjfojfeaa
/- What is proved: nothing: weights and marks of the data types. No condition. -/
namespace Go.Proofs.Ytoaebcjjfojfeaa
set_option linter.unusedVariables false
def wt_DEnt (x : DEnt) : Nat := x.name.size + 0
def cnt_DEnt (x : DEnt) : Nat := 1 + 1
def mark_DEnt (n : Int) (x : DEnt) : DEnt := ⟨(mtext n), (n + 1)⟩
def vcnt_DEnt (x : DEnt) : Nat := 0 + 0
def vmark_DEnt (n : Int) (x : DEnt) : DEnt := ⟨x.name, x.ino⟩
def wt_DInode (x : DInode) : Nat := 0 + 0 + 0 + x.blocks.length + (x.ents.length + sumF wt_DEnt x.ents)
def cnt_DInode (x : DInode) : Nat := 1 + 1 + 1 + x.blocks.length + (sumF cnt_DEnt x.ents)
def mark_DInode (n : Int) (x : DInode) : DInode := ⟨n, (n + 1), (n + 1 + 1), ((markL (fun _ => 1) (fun m _ => m)) (n + 1 + 1 + 1) x.blocks), ((markL cnt_DEnt mark_DEnt) (n + 1 + 1 + 1 + (x.blocks.length : Int)) x.ents)⟩
def vcnt_DInode (x : DInode) : Nat := 0 + 0 + 0 + x.blocks.length + (sumF cnt_DEnt x.ents)
def vmark_DInode (n : Int) (x : DInode) : DInode := ⟨x.kind, x.links, x.size, ((markL (fun _ => 1) (fun m _ => m)) n x.blocks), ((markL cnt_DEnt mark_DEnt) (n + (x.blocks.length : Int)) x.ents)⟩
def wt_DFs (x : DFs) : Nat := (x.inodes.length + sumF wt_DInode x.inodes) + (x.data.length + sumF (fun x => x.length) x.data)
def cnt_DFs (x : DFs) : Nat := (sumF cnt_DInode x.inodes) + (sumF (fun x => x.length) x.data)
def mark_DFs (n : Int) (x : DFs) : DFs := ⟨((markL cnt_DInode mark_DInode) n x.inodes), ((markL (fun x => x.length) (markL (fun _ => 1) (fun m _ => mbyte m))) (n + ((sumF cnt_DInode x.inodes) : Int)) x.data)⟩
def vcnt_DFs (x : DFs) : Nat := (sumF cnt_DInode x.inodes) + (sumF (fun x => x.length) x.data)
def vmark_DFs (n : Int) (x : DFs) : DFs := ⟨((markL cnt_DInode mark_DInode) n x.inodes), ((markL (fun x => x.length) (markL (fun _ => 1) (fun m _ => mbyte m))) (n + ((sumF cnt_DInode x.inodes) : Int)) x.data)⟩
def wt_RInt (x : RInt) : Nat := 0 + 0
def cnt_RInt (x : RInt) : Nat := 1 + 1
def mark_RInt (n : Int) (x : RInt) : RInt := ⟨n, (n + 1)⟩
def vcnt_RInt (x : RInt) : Nat := 0 + 0
def vmark_RInt (n : Int) (x : RInt) : RInt := ⟨x.code, x.val⟩
def wt_RInts (x : RInts) : Nat := 0 + x.list.length
def cnt_RInts (x : RInts) : Nat := 1 + x.list.length
def mark_RInts (n : Int) (x : RInts) : RInts := ⟨n, ((markL (fun _ => 1) (fun m _ => m)) (n + 1) x.list)⟩
def vcnt_RInts (x : RInts) : Nat := 0 + x.list.length
def vmark_RInts (n : Int) (x : RInts) : RInts := ⟨x.code, ((markL (fun _ => 1) (fun m _ => m)) n x.list)⟩
def wt_RInode (x : RInode) : Nat := 0 + (wt_DInode x.inode)
def cnt_RInode (x : RInode) : Nat := 1 + (cnt_DInode x.inode)
def mark_RInode (n : Int) (x : RInode) : RInode := ⟨n, (mark_DInode (n + 1) x.inode)⟩
def vcnt_RInode (x : RInode) : Nat := 0 + (vcnt_DInode x.inode)
def vmark_RInode (n : Int) (x : RInode) : RInode := ⟨x.code, (vmark_DInode n x.inode)⟩
def wt_DSrc (x : DSrc) : Nat := x.code.length + 0
def cnt_DSrc (x : DSrc) : Nat := x.code.length + 1
def mark_DSrc (n : Int) (x : DSrc) : DSrc := ⟨((markL (fun _ => 1) (fun m _ => mbyte m)) n x.code), (n + (x.code.length : Int))⟩
def vcnt_DSrc (x : DSrc) : Nat := x.code.length + 0
def vmark_DSrc (n : Int) (x : DSrc) : DSrc := ⟨((markL (fun _ => 1) (fun m _ => mbyte m)) n x.code), x.at_⟩
end Go.Proofs.Ytoaebcjjfojfeaa
/- What is proved: how much there is to mark, of inodes and of lists of blocks. No condition. -/
namespace Go.Proofs.Ytoaebcjjfojfeaa
set_option linter.unusedVariables false
set_option linter.unusedSimpArgs false
theorem sumF_mul {α : Type} {f g : α → Nat} {m : Nat} (h : ∀ x, f x ≤ m * g x) : ∀ xs : List α, sumF f xs ≤ m * sumF g xs
  | [] => Nat.zero_le _
  | x :: xs => by
    have h1 := h x
    have h2 := sumF_mul h xs
    simp only [sumF, Nat.mul_add]
    omega
theorem sumF_const {α : Type} (c : Nat) : ∀ xs : List α, sumF (fun _ => c) xs = xs.length * c
  | [] => by simp [sumF]
  | x :: xs => by simp only [sumF, sumF_const c xs, List.length_cons, Nat.succ_mul]; omega
theorem inode_cnt_wt (x : DInode) : cnt_DInode x ≤ 3 + 2 * wt_DInode x := by
  unfold cnt_DInode wt_DInode
  have h : sumF cnt_DEnt x.ents = x.ents.length * 2 := by
    have e : cnt_DEnt = fun _ => 2 := by funext e; rfl
    rw [e, sumF_const]
  omega
theorem inodes_cnt_wt (xs : List DInode) : sumF cnt_DInode xs ≤ 3 * (xs.length + sumF wt_DInode xs) := by
  have : ∀ ys : List DInode, sumF cnt_DInode ys ≤ 3 * (ys.length + sumF wt_DInode ys) := by
    intro ys
    induction ys with
    | nil => simp [sumF]
    | cons y ys ih =>
      have h := inode_cnt_wt y
      simp only [sumF, List.length_cons]
      omega
  exact this xs
theorem used_len_20 {xs : List DInode} (h : inodesFault xs = 0) : (sortI (usedL xs)).length ≤ 40 := by
  rw [sortI_len]
  have := usedL_40 h xs.length
  rwa [List.take_length] at this
theorem usedR_cnt (xs : List DInode) : vcnt_RInts (usedR xs) ≤ 40 := by
  unfold vcnt_RInts usedR
  split
  · rename_i h
    split
    · have := used_len_20 h; simp only; omega
    · simp
  · simp
theorem freeR_cnt (xs : List DInode) (b : List Int) : vcnt_RInts (freeR xs b) ≤ 40 := by
  unfold vcnt_RInts freeR
  split
  · have : (freeTo xs b).length ≤ 20 := placesTo_len
    simp only; omega
  · simp
theorem pickR_cnt (xs : List DInode) (b : List Int) (n : Int) : vcnt_RInts (pickR xs b n) ≤ 40 := by
  unfold vcnt_RInts pickR pickOf
  split
  · split
    · split
      · simp
      · have : (freeTo xs b).length ≤ 20 := placesTo_len
        simp only [List.length_take]; omega
    · simp
  · simp
theorem packR_cnt (x : DInode) : vcnt_RInts (packR x) ≤ 44 := by
  unfold vcnt_RInts packR
  split
  · rename_i h; have := packI_len h; simp only; omega
  · simp
theorem inode_vcnt_wt (x : DInode) : vcnt_DInode x ≤ 3 + 2 * wt_DInode x := by
  have := inode_cnt_wt x
  unfold cnt_DInode at this
  unfold vcnt_DInode
  omega
end Go.Proofs.Ytoaebcjjfojfeaa
/- What is proved: how much there is to mark, of an inode read back. No condition. -/
namespace Go.Proofs.Ytoaebcjjfojfeaa
set_option linter.unusedVariables false
theorem unpR_cnt (ws : List Int) : vcnt_RInode (unpR ws) ≤ 100 := by
  have h := unpR_ok ws
  have h4 := (blocks_4 h).1
  have h6 := ents_6 h
  have hs : sumF cnt_DEnt (unpR ws).inode.ents = (unpR ws).inode.ents.length * 2 := sumF_const 2 _
  simp only [vcnt_RInode, vcnt_DInode]
  omega
end Go.Proofs.Ytoaebcjjfojfeaa

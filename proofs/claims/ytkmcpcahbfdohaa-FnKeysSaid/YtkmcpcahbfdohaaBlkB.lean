/- What is proved: what the two walks from the end hand back, told of a disk. No condition. -/
import Derived.Test.YtkmcpcahbfdohaaBlkA
import Derived.Test.YtkmcpcahbfdohaaBase2
import Derived.Test.YtkmcpcahbfdohaaTypes
namespace Go.Proofs.Ytkmcpcahbfdohaa
open Go Go.RowKit
set_option linter.unusedVariables false
set_option linter.unusedSimpArgs false
theorem mem_bk {zs : List Pt} {k j : Nat} (hj : j < k) : (zs.length - 1 - j, zs[zs.length - 1 - j]?.getD (0, none, 0, 0)) ∈ bk zs k := by
  unfold bk
  exact List.mem_map.2 ⟨j, List.mem_range.2 hj, rfl⟩
section
variable {d : DDisk} {zs : List Pt} {a : Int} {Q : Nat → DPut → Pt → Prop}
theorem blk_no {k : Nat} (hl : zs.length = d.cache.length) (hz : ∀ j p, d.cache[j]? = some p → ∃ z, zs[j]? = some z ∧ z.1 = p.at_ ∧ Q j p z) (h : NoHit a (bk zs k)) (hk : k ≤ zs.length) : ∀ j (z : DPut), j < k → d.cache.reverse[j]? = some z → (z.at_ == a) = false := fun j z hj hzz => by
  have hjl : j < d.cache.length := by omega
  rw [List.getElem?_reverse hjl] at hzz
  obtain ⟨y, h1, h2, -⟩ := hz _ z hzz
  have := h _ (mem_bk (zs := zs) hj)
  rw [hl, h1] at this
  simp only [Option.getD_some] at this
  rw [h2] at this
  simpa using this
theorem blk_hit {k : Nat} (hl : zs.length = d.cache.length) (hz : ∀ j p, d.cache[j]? = some p → ∃ z, zs[j]? = some z ∧ z.1 = p.at_ ∧ Q j p z) (hk : k ≤ zs.length) (h : HitP a (bk zs k)) : ∃ j p z, Q j p z ∧ lastV (bk zs k) = slV z.2 ∧ blockL d a = p.words := by
  obtain ⟨q, x, e, hq, hx⟩ := h
  cases k with
  | zero => exfalso; have := congrArg List.length e; simp [bk] at this
  | succ k =>
    rw [bk_succ] at e
    obtain ⟨e1, e2⟩ := List.append_inj' e rfl
    subst e1
    simp at e2
    subst e2
    have hkl : k < d.cache.length := by omega
    have hp : d.cache[d.cache.length - 1 - k]? = some (d.cache[d.cache.length - 1 - k]'(by omega)) := List.getElem?_eq_getElem (by omega)
    obtain ⟨z, h1, h2, h3⟩ := hz _ _ hp
    refine ⟨_, _, z, h3, ?_, ?_⟩
    · rw [lastV, bk_succ, last3_snoc, hl, h1]; rfl
    · have hf := find_at (p := fun p : DPut => p.at_ == a) (blk_no hl hz hq (by omega)) (by rw [List.getElem?_reverse hkl]; exact hp) (by
        rw [hl, h1] at hx
        simp only [Option.getD_some] at hx
        rw [← h2, hx]; simp)
      unfold blockL
      rw [hf]; rfl
theorem blk_miss (hl : zs.length = d.cache.length) (hz : ∀ j p, d.cache[j]? = some p → ∃ z, zs[j]? = some z ∧ z.1 = p.at_ ∧ Q j p z) (h : NoHit a (bk zs zs.length)) : blockL d a = d.blocks.getD a.toNat [] := by
  have hf : (d.cache.reverse.find? fun p => p.at_ == a) = none := by
    rw [List.find?_eq_none]
    intro z hzm
    obtain ⟨j, hj⟩ := List.getElem?_of_mem hzm
    have hlt : j < zs.length := by have := (List.getElem?_eq_some_iff.1 hj).1; simp at this; omega
    have := blk_no hl hz h (Nat.le_refl _) j z hlt hj
    simp [this]
  unfold blockL
  rw [hf]; rfl
end
theorem add_off (b o n : Nat) : (Addr.add ⟨b, o, none⟩ n).off = o + n := by cases n <;> simp [Addr.add]
theorem el_cell {α : Type} {K : Kd α} {w0 wF : World} {F0 : Bs} {ad : Addr} {xs : List α} {j i : Nat} {x : α} {cs : List Value} {u : Value} (hl : F0 ad.block → w0.heap[ad.block]? = wF.heap[ad.block]?) (hF : F0 ad.block) (hc : ∀ i u, cs[i]? = some u → wF.cell? (ad.add (j * K.sz + i)) = some u) (hu : cs[i]? = some u) : w0.cell? ⟨ad.block, ad.off + (j * K.sz + i), none⟩ = some u := by
  have h := hc i u hu
  have hs := cell_spot h
  have hb : (ad.add (j * K.sz + i)).block = ad.block := add_block _ _
  have ho : (ad.add (j * K.sz + i)).off = ad.off + (j * K.sz + i) := by
    obtain ⟨b, o, s⟩ := ad
    cases s with
    | none => exact add_off _ _ _
    | some s =>
      unfold Addr.add at hs ⊢
      split
      · rename_i h0
        rw [if_pos h0] at hs
        cases hs
      · rfl
  rw [hs, hb, ho] at h
  rw [cell_loc (a := ⟨ad.block, ad.off + (j * K.sz + i), none⟩) (hl hF)]
  exact h
theorem block_con {f : FuncId} {w0 wF : World} {S0 F0 : Bs} {d : DDisk} {ad : Addr} {v0 v1 : Value} {a : Int}
    (hcall : ∀ (p o bb ob nB cB : Nat) (at_ : Int) (A : Option Addr) (nC cC : Nat) (wv : Sl3) (zs : List Pt) (hreach : zs.length * 32 ≤ 140737488355328) (w : World) (hp : p < w.heap.size) (hB : w.cell? ⟨p, o, none⟩ = some (.slice (some ⟨bb, ob, none⟩) nB cB)) (hC : w.cell? ⟨p, o + 1, none⟩ = some (.slice A nC cC)) (hP : PutsAt w.heap.size w (.slice A nC cC) zs) (hbb : bb < w.heap.size) (h0 : 0 ≤ at_) (hlt : at_ < (nB : Int)) (hw : w.cell? ⟨bb, ob + at_.toNat, none⟩ = some (slV wv)),
      Calls Try.prog f #[.pointer (some ⟨p, o, none⟩), .int .i64 at_] w fun e W' => (∃ r, e = .returned r ∧ ((∃ k, k ≤ zs.length ∧ HitP at_ (bk zs k) ∧ r = lastV (bk zs k)) ∨ (NoHit at_ (bk zs zs.length) ∧ r = slV wv))) ∧ Below w.heap.size w W')
    (hp : PtrRo (kraw 2 (by decide)) w0 (FF w0 S0) ad [v0, v1]) (h0 : kSl_40.ro wF F0 d.blocks [v0]) (h1 : kSl_57.ro wF F0 d.cache [v1]) (hF : ∀ b, F0 b → FF w0 S0 b ∧ w0.heap[b]? = wF.heap[b]?) (hd : d.cache.length ≤ 200) (ha : 0 ≤ a ∧ a < (d.blocks.length : Int)) :
    Calls Try.prog f #[.pointer (some ad), .int .i64 a] w0 (TriPost w0 S0 (fun r l => kSl_2.ro wF F0 (blockL d a) [r] ∧ l = [])) := by
  obtain ⟨A0, c0, rfl, -, -, -, g4⟩ := ro_form h0
  obtain ⟨A1, c1, rfl, -, -, -, k4⟩ := ro_form h1
  obtain ⟨ecs, hFad, ⟨rfl, -, -⟩, hc⟩ := hp
  have b0 := hc 0 _ rfl
  have b1 := hc 1 _ rfl
  have hs : ad = ⟨ad.block, ad.off, none⟩ := by
    refine cell_spot (w := w0) (v := .slice A0 d.blocks.length c0) ?_
    simpa [Addr.add] using b0
  obtain ⟨p, o, s⟩ := ad
  obtain rfl : s = none := by cases hs; rfl
  have b0' : w0.cell? ⟨p, o, none⟩ = some (.slice A0 d.blocks.length c0) := by simpa [Addr.add] using b0
  have b1' : w0.cell? ⟨p, o + 1, none⟩ = some (.slice A1 d.cache.length c1) := by simpa [Addr.add] using b1
  obtain ⟨ad0, rfl, r0⟩ := g4 (by omega)
  have hx : d.blocks[a.toNat]? = some (d.blocks[a.toNat]'(by omega)) := List.getElem?_eq_getElem (by omega)
  obtain ⟨ecs, e1, e2⟩ := r0.2 a.toNat _ hx
  obtain ⟨Aw, cw, rfl, hh⟩ := e1
  have e1 : kSl_2.ro wF F0 (d.blocks[a.toNat]'(by omega)) [.slice Aw (d.blocks[a.toNat]'(by omega)).length cw] := ⟨Aw, cw, rfl, hh⟩
  have hwv := el_cell (K := kSl_2) (xs := d.blocks) (x := d.blocks[a.toNat]'(by omega)) (i := 0) (fun h => (hF _ h).2) r0.1 e2 rfl
  have hwv' : w0.cell? ⟨ad0.block, ad0.off + a.toNat, none⟩ = some (slV (Aw, (d.blocks[a.toNat]'(by omega)).length, cw)) := by
    rw [show a.toNat * kSl_2.sz + 0 = a.toNat by show a.toNat * 1 + 0 = _; omega] at hwv
    exact hwv
  obtain ⟨zs, hl, hz⟩ : ∃ zs : List Pt, zs.length = d.cache.length ∧ ∀ j p, d.cache[j]? = some p → ∃ z, zs[j]? = some z ∧ z.1 = p.at_ ∧ (kSl_2.ro wF F0 p.words [slV z.2] ∧ ∀ ad1, A1 = some ad1 → w0.cell? ⟨ad1.block, ad1.off + j * 2, none⟩ = some (.int .i64 z.1) ∧ w0.cell? ⟨ad1.block, ad1.off + j * 2 + 1, none⟩ = some (slV z.2)) := by
    refine choice_list (P := fun j (p : DPut) (z : Pt) => z.1 = p.at_ ∧ (kSl_2.ro wF F0 p.words [slV z.2] ∧ ∀ ad1, A1 = some ad1 → w0.cell? ⟨ad1.block, ad1.off + j * 2, none⟩ = some (.int .i64 z.1) ∧ w0.cell? ⟨ad1.block, ad1.off + j * 2 + 1, none⟩ = some (slV z.2))) d.cache fun j p hp => ?_
    obtain ⟨ad1, rfl, r1⟩ := k4 (by have := (List.getElem?_eq_some_iff.1 hp).1; omega)
    obtain ⟨ecs, f1, f2⟩ := r1.2 j p hp
    obtain ⟨v1, rfl, f3⟩ := kT_57_ro f1
    obtain ⟨A2, c2, rfl, -⟩ := ro_form f3
    refine ⟨(p.at_, A2, p.words.length, c2), rfl, f3, fun ad e => ?_⟩
    cases e
    have q0 := el_cell (K := kT_57) (xs := d.cache) (x := p) (i := 0) (fun h => (hF _ h).2) r1.1 f2 rfl
    have q1 := el_cell (K := kT_57) (xs := d.cache) (x := p) (i := 1) (fun h => (hF _ h).2) r1.1 f2 rfl
    exact ⟨q0, q1⟩
  have hP : PutsAt w0.heap.size w0 (.slice A1 d.cache.length c1) zs := by
    by_cases h : 0 < d.cache.length
    · obtain ⟨ad1, rfl, r1⟩ := k4 h
      have hsub : ad1 = ⟨ad1.block, ad1.off, none⟩ := by
        obtain ⟨ecs, f1, f2⟩ := r1.2 0 _ (List.getElem?_eq_getElem h)
        obtain ⟨v1, rfl, f3⟩ := kT_57_ro f1
        have := f2 0 _ rfl
        refine cell_spot (w := wF) (v := .int .i64 (d.cache[0].at_)) ?_
        simpa [Addr.add] using this
      refine .inr ⟨ad1.block, ad1.off, c1, by rw [hl, ← hsub], (hF _ r1.1).1.1, fun j z hzj => ?_⟩
      have hj : j < d.cache.length := by have := (List.getElem?_eq_some_iff.1 hzj).1; omega
      obtain ⟨z', h1, -, -, h3⟩ := hz j _ (List.getElem?_eq_getElem hj)
      rw [hzj] at h1; cases h1
      exact h3 _ rfl
    · have h0 : d.cache.length = 0 := by omega
      exact .inl ⟨List.eq_nil_of_length_eq_zero (by omega), A1, c1, by rw [h0]⟩
  have had0 : ad0 = ⟨ad0.block, ad0.off, none⟩ := by
    obtain ⟨ecs, f1, f2⟩ := r0.2 0 _ (List.getElem?_eq_getElem (by omega))
    obtain ⟨A9, c9, rfl, -⟩ := f1
    have := f2 0 _ rfl
    refine cell_spot (w := wF) (v := .slice A9 (d.blocks[0]'(by omega)).length c9) ?_
    simpa [Addr.add] using this
  rw [had0] at b0'
  refine (hcall p o ad0.block ad0.off d.blocks.length c0 a A1 d.cache.length c1 (Aw, (d.blocks[a.toNat]'(by omega)).length, cw) zs (by omega) w0 hFad.1 b0' b1' hP (hF _ r0.1).1.1 ha.1 ha.2 hwv').mono ?_
  rintro e W' ⟨⟨r, rfl, hr⟩, hB⟩
  refine ⟨r, [], rfl, ⟨?_, rfl⟩, fun _ => False, trivial, fun _ h => h.elim, Fr.of_below hB S0⟩
  rcases hr with ⟨k, hk, hh, rfl⟩ | ⟨hh, rfl⟩
  · obtain ⟨j, p, z, ⟨h3, -⟩, h4, h5⟩ := blk_hit hl hz hk hh
    rw [h4, h5]; exact h3
  · rw [blk_miss hl hz hh, List.getD_eq_getElem?_getD, hx]
    exact e1
theorem c_101 {w0 wF : World} {S0 F0 : Bs} {d : DDisk} {ad : Addr} {v0 v1 : Value} {a : Int} (hp : PtrRo (kraw 2 (by decide)) w0 (FF w0 S0) ad [v0, v1]) (h0 : kSl_40.ro wF F0 d.blocks [v0]) (h1 : kSl_57.ro wF F0 d.cache [v1]) (hF : ∀ b, F0 b → FF w0 S0 b ∧ w0.heap[b]? = wF.heap[b]?) (hd : d.cache.length ≤ 200) (ha : 0 ≤ a ∧ a < (d.blocks.length : Int)) :
    Calls Try.prog 101 #[.pointer (some ad), .int .i64 a] w0 (TriPost w0 S0 (fun r l => kSl_2.ro wF F0 (blockL d a) [r] ∧ l = [])) :=
  block_con (fun p o bb ob nB cB at_ A nC cC wv zs hreach w hp hB hC hP hbb h0 hlt hw => callsIn_wide.1 (blk_in Fence.wide 3 trivial trivial trivial rfl (by omega) p o bb ob nB cB at_ A nC cC wv zs hreach w hp hB hC hP hbb h0 hlt hw)) hp h0 h1 hF hd ha
theorem c_106 {w0 wF : World} {S0 F0 : Bs} {d : DDisk} {ad : Addr} {v0 v1 : Value} {a : Int} (hp : PtrRo (kraw 2 (by decide)) w0 (FF w0 S0) ad [v0, v1]) (h0 : kSl_40.ro wF F0 d.blocks [v0]) (h1 : kSl_57.ro wF F0 d.cache [v1]) (hF : ∀ b, F0 b → FF w0 S0 b ∧ w0.heap[b]? = wF.heap[b]?) (hd : d.cache.length ≤ 200) (ha : 0 ≤ a ∧ a < (d.blocks.length : Int)) :
    Calls Try.prog 106 #[.pointer (some ad), .int .i64 a] w0 (TriPost w0 S0 (fun r l => kSl_2.ro wF F0 (blockL d a) [r] ∧ l = [])) :=
  block_con (fun p o bb ob nB cB at_ A nC cC wv zs hreach w hp hB hC hP hbb h0 hlt hw => callsIn_wide.1 (l1at_in Fence.wide 3 trivial rfl p o bb ob nB cB at_ A nC cC wv zs hreach w hB hC hP h0 hlt hw)) hp h0 h1 hF hd ha
theorem raw2 {w : World} {F : Bs} {A A' : Option Addr} {n c n' c' : Nat} : (kraw 2 (by decide)).ro w F [.slice A n c, .slice A' n' c'] [.slice A n c, .slice A' n' c'] := ⟨rfl, rfl, fun u hu => by
  rcases List.mem_cons.1 hu with rfl | hu
  · rfl
  · obtain rfl := List.mem_singleton.1 hu; rfl⟩
end Go.Proofs.Ytkmcpcahbfdohaa

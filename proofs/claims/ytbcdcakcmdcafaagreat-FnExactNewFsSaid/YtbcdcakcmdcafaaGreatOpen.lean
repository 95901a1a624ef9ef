/- What is proved: an argument that was read out of memory, of a kind: what the kind says holds of its cells. No condition. -/
import Derived.Test.YtbcdcakcmdcafaaGreatRows2
import Derived.ChangeArms
import Derived.SizedLaws
import Derived.OpenShut
import Derived.ChangeMaps5
namespace Go.Proofs.YtbcdcakcmdcafaaGreat
open Go Go.RowKit
set_option linter.unusedVariables false
set_option linter.unusedSimpArgs false
def InW (W : World) : Bs := fun b => b < W.heap.size
section
variable {H : Type} (enc : TypeId × Value → H) (P : Program) (W : World)
def Ko {α : Type} (t : TypeId) (K : Kd α) : Prop := ∀ (fuel : Nat) (cs : List Value) (x : DataW H × List MemPlace), DataW.trod enc P W 0 (fun _ => true) true fuel t cs = some x → (x.1.weights P t).all (· ≤ reachBytes) = true → ∃ y, K.ro W (InW W) y cs
def KoF {α : Type} (ps : List (TypeId × Nat)) (off : Nat) (K : Kd α) : Prop := ∀ (n : Nat) (cs : List Value) (xs : List (DataW H × List MemPlace)), off + K.sz ≤ cs.length → xs.length = ps.length →
  (∀ (i : Nat) (t : TypeId) (o : Nat), ps[i]? = some (t, o) → DataW.trod enc P W 0 (fun _ => true) true n t ((cs.drop o).take (P.cellsOf t)) = xs[i]?) → (DataW.weightsEach P (ps.map (·.1)) (xs.map (·.1))).all (· ≤ reachBytes) = true → ∃ y, K.ro W (InW W) y ((cs.drop off).take K.sz)
end
section
variable {H : Type} {enc : TypeId × Value → H} {P : Program} {W : World}
theorem Ko.int {t : TypeId} {k : IntKind} (ht : P.underlying t = some (.int k)) : Ko enc P W t (kint k) := fun fuel cs x h _ => by
  obtain ⟨n, rfl, _, _⟩ := DataW.trod_int ht h
  exact ⟨n, rfl, trivial⟩
theorem Ko.bool {t : TypeId} (ht : P.underlying t = some .bool) : Ko enc P W t kbool := fun fuel cs x h _ => by
  obtain ⟨n, rfl, _⟩ := DataW.trod_bool ht h
  exact ⟨n, rfl, trivial⟩
theorem Ko.byte {t : TypeId} (ht : P.underlying t = some (.int .u8)) : Ko enc P W t kbyte := fun fuel cs x h _ => by
  obtain ⟨n, rfl, _, hw⟩ := DataW.trod_int ht h
  have hn : 0 ≤ n ∧ n < 256 := by
    have h1 := of_decide_eq_true (Bool.and_eq_true_iff.1 (show (decide (IntKind.min .u8 ≤ n) && decide (n ≤ IntKind.max .u8)) = true from hw)).1
    have h2 := of_decide_eq_true (Bool.and_eq_true_iff.1 (show (decide (IntKind.min .u8 ≤ n) && decide (n ≤ IntKind.max .u8)) = true from hw)).2
    have e1 : IntKind.min .u8 = 0 := by decide
    have e2 : IntKind.max .u8 = 255 := by decide
    omega
  refine ⟨UInt8.ofNat n.toNat, ?_, trivial⟩
  have : ((UInt8.ofNat n.toNat).toNat : Int) = n := by
    rw [UInt8.toNat_ofNat']; omega
  show [Value.int .u8 n] = [Value.int .u8 ((UInt8.ofNat n.toNat).toNat : Int)]
  rw [this]
theorem Ko.str {t : TypeId} (ht : P.underlying t = some .string) : Ko enc P W t kstr := fun fuel cs x h hw => by
  obtain ⟨s, rfl, rfl, _⟩ := DataW.trod_string ht h
  refine ⟨s, rfl, ?_⟩
  have h1 := List.all_eq_true.1 hw s.data.toList.length (by simp [DataW.weights])
  have h2 : s.data.toList.length ≤ 140737488351232 := of_decide_eq_true h1
  rw [Array.length_toList] at h2
  exact h2
theorem list_ofG {β : Type} {p : Nat → β → Prop} : ∀ n, (∀ j, j < n → ∃ c, p j c) → ∃ css : List β, css.length = n ∧ ∀ j c, css[j]? = some c → p j c
  | 0, _ => ⟨[], rfl, by simp⟩
  | n + 1, h => by
    obtain ⟨css, h1, h2⟩ := list_ofG n (fun j hj => h j (by omega))
    obtain ⟨c, hc⟩ := h n (by omega)
    refine ⟨css ++ [c], by simp [h1], fun j d hd => ?_⟩
    rw [List.getElem?_append] at hd
    split at hd
    · exact h2 j d hd
    · rename_i hj
      have : j - css.length = 0 := by
        have := (List.getElem?_eq_some_iff.1 hd).1
        simp at this; omega
      have e : j = n := by omega
      subst e
      rw [h1] at hd
      simp at hd
      subst hd
      exact hc
theorem weightsAll_mem {e : TypeId} : ∀ {ds : List (DataW H)} {d : DataW H}, d ∈ ds → (DataW.weightsAll P e ds).all (· ≤ reachBytes) = true → (d.weights P e).all (· ≤ reachBytes) = true
  | d0 :: ds, d, hd, h => by
    simp only [DataW.weightsAll, List.all_append, Bool.and_eq_true] at h
    rcases List.mem_cons.1 hd with rfl | hd
    · exact h.1
    · exact weightsAll_mem hd h.2
  | [], d, hd, _ => by cases hd
theorem Ko.slice {α : Type} {K : Kd α} {t e : TypeId} {by_ : Nat} (ht : P.underlying t = some (.slice e)) (hc : P.cellsOf e = K.sz) (hb : P.bytesOf e = by_) (hK : Ko enc P W e K) : Ko enc P W t (kslice e by_ K) := fun fuel cs x h hw => by
  rcases DataW.trod_slice ht h with ⟨rfl, rfl⟩ | ⟨a, len, cap, elems, rest, n, rfl, rfl, rfl, hb0, hl, hm, hlen, hel, hsp, _⟩
  · exact ⟨[], ro_nil⟩
  · simp only [DataW.weights, ht, List.all_cons, List.all_append, Bool.and_eq_true, decide_eq_true_eq, List.length_map] at hw
    obtain ⟨hw1, hw2, _⟩ := hw
    rw [hb] at hw1
    have each : ∀ j, j < len → ∃ y, ∃ ecs, K.ro W (InW W) y ecs ∧ InW W a.block ∧ ∀ i u, ecs[i]? = some u → W.cell? (a.add (j * K.sz + i)) = some u := by
      intro j hj
      have h1 := hel j hj
      rw [List.getElem?_eq_getElem (by omega), Option.bind_eq_some_iff] at h1
      obtain ⟨ecs, h2, h3⟩ := h1
      obtain ⟨y, hy⟩ := hK n ecs _ h3 (weightsAll_mem (List.mem_map.2 ⟨_, List.getElem_mem _, rfl⟩) hw2)
      obtain ⟨_, hlen2, hcells⟩ := World.cells?_some h2
      have hsz := K.ro_len hy
      have hcell : ∀ i u, ecs[i]? = some u → W.cell? (a.add (j * K.sz + i)) = some u := fun i u hu => by
        have hi : i < P.cellsOf e := by have := (List.getElem?_eq_some_iff.1 hu).1; omega
        have := hcells i hi
        rw [add_add, hc] at this
        rw [this, hu]
      refine ⟨y, ecs, hy, ?_, hcell⟩
      have hpos := K.pos
      have h0 := hcell 0 ecs[0] (List.getElem?_eq_getElem (by omega))
      unfold World.cell? at h0
      rw [add_block] at h0
      unfold InW
      cases hh : W.heap[a.block]? with
      | none => rw [hh] at h0; simp at h0
      | some b => exact (Array.getElem?_eq_some_iff.1 hh).1
    obtain ⟨xs, hxl, hxs⟩ := list_ofG len each
    refine ⟨xs, some a, cap, by rw [hxl], by rw [hxl]; exact hl, hm, ?_, fun hp => ⟨a, rfl, ?_, fun j y hy => ?_⟩⟩
    · have : xs.length * by_ ≤ (elems.length + rest.length) * by_ := Nat.mul_le_mul_right _ (by omega)
      unfold reachBytes at hw1
      omega
    · obtain ⟨ecs, _, h, _⟩ := hxs 0 _ (List.getElem?_eq_getElem hp)
      exact h
    · obtain ⟨ecs, h1, _, h2⟩ := hxs j y hy
      exact ⟨ecs, h1, h2⟩
theorem KoF.one {α : Type} {K : Kd α} {t : TypeId} {off : Nat} (hc : P.cellsOf t = K.sz) (h : Ko enc P W t K) : KoF enc P W [(t, off)] off K := fun n cs xs hl hx hf hw => by
  have h0 := hf 0 t off rfl
  rw [List.getElem?_eq_getElem (by simp at hx; omega), hc] at h0
  refine h n _ _ h0 ?_
  match xs, hx with
  | [x], _ =>
    simp only [List.map_cons, List.map_nil, DataW.weightsEach, List.append_nil] at hw
    exact hw
theorem KoF.cons {α β : Type} {A : Kd α} {B : Kd β} {t : TypeId} {ps : List (TypeId × Nat)} {off off' : Nat} (hc : P.cellsOf t = A.sz) (ho : off + A.sz = off') (h : Ko enc P W t A) (hs : KoF enc P W ps off' B) : KoF enc P W ((t, off) :: ps) off (kpair A B) := fun n cs xs hl hx hf hw => by
  subst ho
  have hsz : (kpair A B).sz = A.sz + B.sz := rfl
  match xs, hx with
  | x :: xs, hx =>
    simp only [List.map_cons, DataW.weightsEach, List.all_append, Bool.and_eq_true] at hw
    have h0 := hf 0 t off rfl
    rw [List.getElem?_cons_zero, hc] at h0
    obtain ⟨y1, hy1⟩ := h n _ _ h0 hw.1
    obtain ⟨y2, hy2⟩ := hs n cs xs (by rw [hsz] at hl; omega) (by simpa using hx) (fun i t' o' hi => by have := hf (i + 1) t' o' (by simpa using hi); simpa using this) hw.2
    refine ⟨(y1, y2), _, _, ?_, hy1, hy2⟩
    rw [hsz, List.take_add, List.drop_drop]
theorem Ko.struct {α β : Type} {K : Kd α} {t : TypeId} {fs : Array Field} {ps : List (TypeId × Nat)} {g : β → α} (ht : P.underlying t = some (.struct fs)) (hps : fs.toList.map (fun f => (f.type, f.offset)) = ps) (hc : P.cellsOf t = K.sz) (hF : KoF enc P W ps 0 K) (inv : α → β) (hg : ∀ y, g (inv y) = y) : Ko enc P W t (kiso K g) := fun fuel cs x h hw => by
  obtain ⟨xs, n, rfl, rfl, hl, hx, hf⟩ := DataW.trod_struct ht h
  subst hps
  have hw' : (DataW.weightsEach P ((fs.toList.map (fun f => (f.type, f.offset))).map (·.1)) (xs.map (·.1))).all (· ≤ reachBytes) = true := by
    simp only [DataW.weights, ht] at hw
    rw [List.map_map]
    exact hw
  obtain ⟨y, hy⟩ := hF n cs xs (by omega) (by simp [hx]) (fun i t' o hi => by
    simp only [List.getElem?_map, Option.map_eq_some_iff] at hi
    obtain ⟨f, h1, h2⟩ := hi
    obtain ⟨rfl, rfl⟩ := Prod.mk.inj h2
    exact hf i f (by simpa using h1)) hw'
  refine ⟨inv y, ?_⟩
  show K.ro W (InW W) (g (inv y)) cs
  rw [hg]
  have : (cs.drop 0).take K.sz = cs := by rw [List.drop_zero, List.take_of_length_le (by omega)]
  rwa [this] at hy
/-- An argument. -/
theorem Ko.arg {α : Type} {K : Kd α} {t : TypeId} {v : Value} {d : DataW H} {p : List MemPlace} (h : Ko enc P W t K) (hd : DataW.Trod enc P W 0 (fun _ => true) true t v d p) (hw : (d.weights P t).all (· ≤ reachBytes) = true) : ∃ y, K.ro W (FF W (fun _ => False)) y v.cells.toList := by
  obtain ⟨fuel, hf⟩ := hd
  obtain ⟨y, hy⟩ := h fuel _ (d, p) hf hw
  exact ⟨y, K.ro_up hy (fun b hb => ⟨hb, fun h => h⟩)⟩
theorem Ko.argS {α : Type} {K : Kd α} {t : TypeId} {v : Value} {d : DataW H} {p : List MemPlace} {n : Nat} (h : Ko enc P W t K) (hd : DataW.Trod enc P W 0 (fun _ => true) true t v d p) (hw : (d.weights P t).all (· ≤ reachBytes) = true) (ho : ∃ cs, v = .agg cs ∧ cs.size = n) : ∃ y cs, v = .agg (List.toArray cs) ∧ K.ro W (FF W (fun _ => False)) y cs := by
  obtain ⟨cs, rfl, _⟩ := ho
  obtain ⟨y, hy⟩ := h.arg hd hw
  exact ⟨y, cs.toList, by simp, hy⟩
theorem Ko.argV {α : Type} {K : Kd α} {t : TypeId} {v : Value} {d : DataW H} {p : List MemPlace} (h : Ko enc P W t K) (hd : DataW.Trod enc P W 0 (fun _ => true) true t v d p) (hw : (d.weights P t).all (· ≤ reachBytes) = true) (ho : ∃ A n c, v = .slice A n c) : ∃ y, K.ro W (FF W (fun _ => False)) y [v] := by
  obtain ⟨A, n, c, rfl⟩ := ho
  exact h.arg hd hw
theorem Ko.argI {t : TypeId} {k : IntKind} {v : Value} {d : DataW H} {p : List MemPlace} {r : Reach} {b0 : Nat} (ht : P.underlying t = some (.int k)) (ho : Value.okWide P W r b0 t v) (hd : DataW.Trod enc P W 0 (fun _ => true) true t v d p) : ∃ n, v = .int k n ∧ k.min ≤ n ∧ n ≤ k.max := by
  obtain ⟨n, rfl, _, _, hw⟩ := ChangeShapes.open_int ht ho hd
  have h := Bool.and_eq_true_iff.1 (show (decide (k.min ≤ n) && decide (n ≤ k.max)) = true from hw)
  exact ⟨n, rfl, of_decide_eq_true h.1, of_decide_eq_true h.2⟩
theorem Ko.argB {t : TypeId} {v : Value} {d : DataW H} {p : List MemPlace} {r : Reach} {b0 : Nat} (ht : P.underlying t = some .bool) (ho : Value.okWide P W r b0 t v) (hd : DataW.Trod enc P W 0 (fun _ => true) true t v d p) : ∃ b, v = .bool b := by
  obtain ⟨n, rfl, _⟩ := open_bool ht ho hd
  exact ⟨n, rfl⟩
theorem Ko.argT {t : TypeId} {v : Value} {d : DataW H} {p : List MemPlace} {r : Reach} {b0 : Nat} (ht : P.underlying t = some .string) (ho : Value.okWide P W r b0 t v) (hd : DataW.Trod enc P W 0 (fun _ => true) true t v d p) (hw : (d.weights P t).all (· ≤ reachBytes) = true) : ∃ s : ByteArray, v = .string s ∧ s.size ≤ 140737488351232 := by
  obtain ⟨s, rfl, rfl, _, _⟩ := ChangeMaps.open_string ht ho hd
  refine ⟨s, rfl, ?_⟩
  have h1 := List.all_eq_true.1 hw s.data.toList.length (by simp [DataW.weights])
  have h2 : s.data.toList.length ≤ 140737488351232 := of_decide_eq_true h1
  rw [Array.length_toList] at h2
  exact h2
theorem each_cons {t : TypeId} {ts : List TypeId} {d : DataW H} {ds : List (DataW H)} (h : (DataW.weightsEach P (t :: ts) (d :: ds)).all (· ≤ reachBytes) = true) : (d.weights P t).all (· ≤ reachBytes) = true ∧ (DataW.weightsEach P ts ds).all (· ≤ reachBytes) = true := by
  simp only [DataW.weightsEach, List.all_append, Bool.and_eq_true] at h
  exact h
end
/-- What a law's walk says, as its row asks. -/
theorem law_end {P : Program} {f : FuncId} {args : Array Value} {W : World} (h : Calls P f args W (TriPost W (fun _ => False) (fun r l => r = .bool true ∧ l = []))) : Calls P f args W (fun e W' => e = .returned (.bool true) ∧ Below W.heap.size W W') :=
  h.mono fun e W' ⟨r, l, he, ⟨hr, _⟩, ⟨S, _, _, hf⟩⟩ => by
    subst hr
    exact ⟨he, hf.below⟩
end Go.Proofs.YtbcdcakcmdcafaaGreat

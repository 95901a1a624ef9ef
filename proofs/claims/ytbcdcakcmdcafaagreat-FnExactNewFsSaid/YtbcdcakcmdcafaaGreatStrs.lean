/- What is proved: bytes turned to a string; what is read, of a world behind. No condition. -/
import Derived.Test.YtbcdcakcmdcafaaGreatMText
import Derived.Laws.StructEq
namespace Go.Proofs.YtbcdcakcmdcafaaGreat
open Go Go.RowKit
set_option linter.unusedVariables false
set_option linter.unusedSimpArgs false
section
variable {P : Program} {T : Slots} {Wd : World → Prop} {o : Oper} {N : Nat} {w0 : World} {S0 : Bs} {l l' : List Asn}
theorem WS.roctx {α : Type} {K : Kd α} {x : α} {cs : List Value} (h : K.ro w0 (FF w0 S0) x cs) : ∀ w, WS w0 S0 l w → ∃ F : Bs, K.ro w F x cs := fun w hw => by
  obtain ⟨S, _, _, hf⟩ := hw
  exact ⟨_, K.ro_loc h (fun b hb => hf.block b hb.1 hb.2)⟩
theorem WS.roown {α : Type} {K : Kd α} {x : α} {cs : List Value} (ht : Take l (ownA K x cs) l') : ∀ w, WS w0 S0 l w → ∃ F : Bs, K.ro w F x cs := fun w hw => by
  obtain ⟨S, hs, _, _⟩ := hw.take ht
  exact ⟨_, K.own_ro (show K.own w S x cs from hs.head)⟩
theorem WS.ronil {α : Type} {K : Kd α} {e by_ : Nat} : ∀ w, WS w0 S0 l w → ∃ F : Bs, (kslice e by_ K).ro w F [] [.slice none 0 0] := fun w _ => ⟨fun _ => False, ro_nil⟩
theorem quo_nn {a b : Int} (ha : 0 ≤ a) (h : a ≤ 9223372036854775807) (hb : 0 < b) : IntKind.i64.wrap (a.tdiv b) = a / b := by
  rw [Int.tdiv_eq_ediv_of_nonneg ha]
  have h1 : 0 ≤ a / b := Int.ediv_nonneg ha (by omega)
  have h2 : a / b ≤ a := Int.ediv_le_self b ha
  exact wr rfl (by omega) (by omega)
theorem quo_nat {q d : Nat} {b : Int} (h : q ≤ 9223372036854775807) (hb : b = (d : Int)) : IntKind.i64.wrap ((q : Int).tdiv b) = ((q / d : Nat) : Int) := by
  subst hb
  rw [Int.tdiv_eq_ediv_of_nonneg (by omega)]
  have h2 : q / d ≤ q := Nat.div_le_self q d
  have e : ((q / d : Nat) : Int) = (q : Int) / (d : Int) := by simp
  rw [e]
  rw [← e]
  generalize q / d = m at h2 ⊢
  exact wr rfl (by omega) (by omega)
theorem rem_nat {q d : Nat} {b : Int} (hb : b = (d : Int)) : Int.tmod (q : Int) b = ((q % d : Nat) : Int) := by
  subst hb
  rw [Int.tmod_eq_emod_of_nonneg (by omega)]
  simp
theorem any_dec {α : Type} [DecidableEq α] (xs : List α) (v : α) : xs.any (fun x => decide (x = v)) = decide (v ∈ xs) := by
  rw [Bool.eq_iff_iff, List.any_eq_true, decide_eq_true_iff]
  exact ⟨fun ⟨x, hx, h⟩ => of_decide_eq_true h ▸ hx, fun h => ⟨v, h, decide_eq_true rfl⟩⟩
theorem bstr_inj {x y : List UInt8} : bstr x = bstr y ↔ x = y := ⟨fun h => by
  have := congrArg (fun s => s.data.toList) h
  simpa [bstr] using this, fun h => congrArg bstr h⟩
theorem bstr_of (xs : List UInt8) : ((xs.map fun b => (b.toNat : Int)).foldl (fun r n => r.push (UInt8.ofNat n.toNat)) ByteArray.empty) = bstr xs := by
  rw [foldl_push_bytes]
  simp only [List.map_map, bstr]
  congr 1
  simp only [ByteArray.empty, ByteArray.emptyWithCapacity]
  rw [show (Array.empty : Array UInt8) = #[] from rfl]
  simp [Function.comp_def]
theorem q_convBS {xs : List UInt8} {by_ : Nat} {s e d : TypeId} {x : Operand} {v : Value} (ho : o.op = .convert s d x) (hs : P.underlying s = some (.slice e)) (he : P.underlying e = some (.int .u8)) (hd : P.underlying d = some .string) (hx : Val T x v)
    (hr : ∀ w, Wd w → ∃ F : Bs, (kslice e by_ kbyte).ro w F xs [v]) : Quiet P o T Wd (.string (bstr xs)) := fun a w ha hw => by
  obtain ⟨F, hr⟩ := hr w hw
  obtain ⟨A, c, rfl, h1, h2, h3, h4⟩ := ro_form hr
  simp only [execOp, ho, hx a ha]
  have key : (convert s d (.slice A xs.length c)).run P w = .ok (.string (bstr xs)) w := by
    rw [run_convert_bytes_string w s d e _ _ c hs he hd]
    cases A with
    | none =>
      have : xs = [] := by
        cases xs with
        | nil => rfl
        | cons y ys => obtain ⟨ad, h, _⟩ := h4 (by simp); cases h
      subst this
      simp [Conv.bytesToString, bstr]
      rfl
    | some ad =>
      have hl : (loadCells ad xs.length).run P w = .ok ((xs.map fun b => (b.toNat : Int)).map (Value.int .u8)).toArray w := by
        have := run_loadCells_list (P := P) w ad ((xs.map fun b => (b.toNat : Int)).map (Value.int .u8)) (fun i u hu => by
          simp only [List.map_map, List.getElem?_map, Option.map_eq_some_iff, Function.comp] at hu
          obtain ⟨b, hb, rfl⟩ := hu
          have hp : 0 < xs.length := by have := (List.getElem?_eq_some_iff.1 hb).1; omega
          obtain ⟨ad', ha', hro⟩ := h4 hp
          obtain rfl := Option.some.inj ha'
          obtain ⟨ecs, ⟨rfl, _⟩, h6⟩ := hro.2 i b hb
          have := h6 0 _ rfl
          simpa [kbyte, kscalar] using this)
        simpa using this
      rw [run_bytesToString w ad _ c _ hl, bstr_of]
  simp [key]
/-! ### structs of scalars, compared -/
theorem eqFs_nil {d : Nat} {xs ys : Array Value} (w : World) : (Op.eqFields d xs ys []).run P w = .ok true w := by simp [Op.eqFields]
theorem eqFs_cons {d : Nat} {xs ys : Array Value} {f : Field} {fs : List Field} {a b : Value} {r q : Bool} (hn : (f.name != "_") = true) (ha : ∀ w, (part f.type xs f.offset).run P w = .ok a w) (hb : ∀ w, (part f.type ys f.offset).run P w = .ok b w)
    (he : ∀ w, (Op.equalIn d f.type a b).run P w = .ok r w) (hr : ∀ w, (Op.eqFields d xs ys fs).run P w = .ok q w) (w : World) : (Op.eqFields d xs ys (f :: fs)).run P w = .ok (r && q) w := by
  have hn' : f.name ≠ "_" := by simpa using hn
  simp only [Op.eqFields]
  rw [if_pos hn']
  simp only [Sem.run_bind, ha, hb, he, Result.andThen_ok]
  cases r <;> simp [hr]
theorem beq_str (a b : ByteArray) : (a.toList == b.toList) = decide (a = b) := by
  rw [ByteArray.toList_eq, ByteArray.toList_eq, Bool.eq_iff_iff, beq_iff_eq, decide_eq_true_iff]
  constructor
  · intro h
    cases a
    cases b
    simp only [Array.toList_inj] at h
    rw [h]
  · rintro rfl; rfl
theorem beq_int (a b : Int) : (a == b) = decide (a = b) := beq_dec a b
theorem q_enteql {x y : Operand} {t t' : TypeId} {xs ys : Array Value} {b : Bool} (ho : o.op = .binOp .eql t x y t') (he : ∀ w, (Op.equalIn 10000 t (.agg xs) (.agg ys)).run P w = .ok b w) (hg : P.eqGuardType P.depth t = false) (hx : Val T x (.agg xs)) (hy : Val T y (.agg ys)) : Quiet P o T Wd (.bool b) := fun a w ha _ => by
  simp only [execOp, ho, hx a ha, hy a ha]
  simp [run_eqGuard_agg w .eql t x y xs ys hg, run_eql_struct w, he w]
theorem q_entneq {x y : Operand} {t t' : TypeId} {xs ys : Array Value} {b : Bool} (ho : o.op = .binOp .neq t x y t') (he : ∀ w, (Op.equalIn 10000 t (.agg xs) (.agg ys)).run P w = .ok b w) (hg : P.eqGuardType P.depth t = false) (hx : Val T x (.agg xs)) (hy : Val T y (.agg ys)) : Quiet P o T Wd (.bool (!b)) := fun a w ha _ => by
  simp only [execOp, ho, hx a ha, hy a ha]
  simp [run_eqGuard_agg w .neq t x y xs ys hg, run_neq_struct w, he w]
end
end Go.Proofs.YtbcdcakcmdcafaaGreat

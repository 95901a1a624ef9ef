/- What is proved: more words on rows and structs: opened, put together, appended to, made. No condition. -/
import Derived.Test.YtbcdcakcmdcafaaGreatRows0
namespace Go.Proofs.YtbcdcakcmdcafaaGreat
open Go Go.RowKit
set_option linter.unusedVariables false
set_option linter.unusedSimpArgs false

def Mk {α : Type} (K : Kd α) (x : α) (cs : List Value) (l : List Asn) : Prop := ∀ w S, Star l w S → K.own w S x cs
theorem mk_leaf {α : Type} {K : Kd α} {x : α} {cs : List Value} : Mk K x cs [ownA K x cs] := fun w S h => show K.own w S x cs from h.head (c := ownA K x cs)
theorem mk_int {k : IntKind} {x : Int} : Mk (kint k) x [.int k x] [] := fun _ _ _ => ⟨rfl, trivial⟩
theorem mk_bool {x : Bool} : Mk kbool x [.bool x] [] := fun _ _ _ => ⟨rfl, trivial⟩
theorem mk_byte {x : UInt8} : Mk kbyte x [.int .u8 (x.toNat : Int)] [] := fun _ _ _ => ⟨rfl, trivial⟩
theorem mk_str {x : ByteArray} (h : x.size ≤ 140737488351232) : Mk kstr x [.string x] [] := fun _ _ _ => ⟨rfl, h⟩
theorem mk_pair {α β : Type} {A : Kd α} {B : Kd β} {x : α} {y : β} {c1 c2 : List Value} {l1 l2 : List Asn} (a : Mk A x c1 l1) (b : Mk B y c2 l2) : Mk (kpair A B) (x, y) (c1 ++ c2) (l1 ++ l2) := fun w S h => by
  obtain ⟨S1, S2, h1, h2, i, j, d⟩ := h.split
  exact ⟨c1, c2, rfl, S1, S2, a _ _ h1, Star.one (c := ownA B y c2) (b _ _ h2), i, j, d⟩
theorem star2 {c1 c2 : Asn} {w : World} {S : Bs} (h : Star [c1, c2] w S) : ∃ S1 S2 : Bs, c1.p w S1 ∧ c2.p w S2 ∧ (∀ b, S1 b → S b) ∧ (∀ b, S2 b → S b) ∧ ∀ b, S1 b → ¬ S2 b := by
  obtain ⟨S1, S2, h1, h2, i, j, d⟩ := h
  exact ⟨S1, S2, h1, h2.head, i, j, d⟩
theorem sl_one {α : Type} {K : Kd α} {e b : Nat} {w : World} {F : Bs} {xs : List α} {cs : List Value} (h : (kslice e b K).ro w F xs cs) : ∃ v, cs = [v] := let ⟨_, _, h, _⟩ := h; ⟨_, h⟩
theorem osl_one {α : Type} {K : Kd α} {e b : Nat} {w : World} {S : Bs} {xs : List α} {cs : List Value} (h : (kslice e b K).own w S xs cs) : ∃ v, cs = [v] := sl_one ((kslice e b K).own_ro h)
end Go.Proofs.YtbcdcakcmdcafaaGreat

/- What is proved: what each kind of operation does, as a rule of the small logic of Core. No condition. -/
import Derived.Test.YtbcdcakcmdcafaaGreatDraw
import Derived.IntWalk
namespace Go.Proofs.YtbcdcakcmdcafaaGreat
open Go Go.RowKit
set_option linter.unusedVariables false
set_option linter.unusedSimpArgs false

theorem beq_dec (a b : Int) : (a == b) = decide (a = b) := by rw [Bool.eq_iff_iff]; simp
theorem wr {a c : Int} (h : a = c) (h1 : -9223372036854775808 ≤ c) (h2 : c ≤ 9223372036854775807) : IntKind.i64.wrap a = c := by rw [IntKind.wrap_i64]; omega
theorem str_len (s : ByteArray) : s.data.toList.length = s.size := by rw [Array.length_toList]; rfl
theorem max64 : IntKind.i64.max = 9223372036854775807 := by decide
section
variable {P : Program} {T : Slots} {Wd : World → Prop} {o : Oper} {N : Nat} {w0 : World} {S0 : Bs} {l lk : List Asn}

/-! ### What touches no memory -/
theorem q_move {x : Operand} {v : Value} (ho : o.op = .move x) (hx : Val T x v) : Quiet P o T Wd v := fun a w ha _ => by
  simp only [execOp, ho, hx a ha]; rfl
theorem q_assign {x : Operand} {v : Value} (ho : o.op = .assign x) (hx : Val T x v) : Quiet P o T Wd v := fun a w ha _ => by
  simp only [execOp, ho, hx a ha]; rfl
theorem q_pick {c x y : Operand} {b : Bool} {v u : Value} (ho : o.op = .pick c x y) (hc : Val T c (.bool b)) (hx : Val T x v) (hy : Val T y u) : Quiet P o T Wd (if b then v else u) := fun a w ha _ => by
  simp only [execOp, ho, hc a ha, hx a ha, hy a ha]; rfl
theorem q_pickT {c x y : Operand} {v : Value} (ho : o.op = .pick c x y) (hc : Val T c (.bool true)) (hx : Val T x v) : Quiet P o T Wd v := fun a w ha _ => by
  simp only [execOp, ho, hc a ha, hx a ha]; rfl
theorem q_pickF {c x y : Operand} {u : Value} (ho : o.op = .pick c x y) (hc : Val T c (.bool false)) (hy : Val T y u) : Quiet P o T Wd u := fun a w ha _ => by
  simp only [execOp, ho, hc a ha, hy a ha]; rfl
theorem q_nilCheck {x : Operand} {ad : Addr} (ho : o.op = .nilCheck x) (hx : Val T x (.pointer (some ad))) : Quiet P o T Wd (.pointer (some ad)) := fun a w ha _ => by
  simp only [execOp, ho, hx a ha]; rfl
theorem q_not {x : Operand} {t : TypeId} {b : Bool} (ho : o.op = .unOp .not t x) (hx : Val T x (.bool b)) : Quiet P o T Wd (.bool (!b)) := fun a w ha _ => by
  simp only [execOp, ho, hx a ha]; rfl
section
variable {x y : Operand} {t t' : TypeId} {k : IntKind} {a b : Int}
theorem q_add {c : Int} (ho : o.op = .binOp .add t x y t') (hx : Val T x (.int k a)) (hy : Val T y (.int k b)) (hc : k.wrap (a + b) = c) : Quiet P o T Wd (.int k c) := fun a' w ha _ => by
  simp only [execOp, ho, hx a' ha, hy a' ha]; simp [eqGuard, binOp, Op.intArith, hc]
theorem q_sub {c : Int} (ho : o.op = .binOp .sub t x y t') (hx : Val T x (.int k a)) (hy : Val T y (.int k b)) (hc : k.wrap (a - b) = c) : Quiet P o T Wd (.int k c) := fun a' w ha _ => by
  simp only [execOp, ho, hx a' ha, hy a' ha]; simp [eqGuard, binOp, Op.intArith, hc]
theorem q_mul {c : Int} (ho : o.op = .binOp .mul t x y t') (hx : Val T x (.int k a)) (hy : Val T y (.int k b)) (hc : k.wrap (a * b) = c) : Quiet P o T Wd (.int k c) := fun a' w ha _ => by
  simp only [execOp, ho, hx a' ha, hy a' ha]; simp [eqGuard, binOp, Op.intArith, hc]
theorem q_quo {c : Int} (ho : o.op = .binOp .quo t x y t') (hx : Val T x (.int k a)) (hy : Val T y (.int k b)) (hb : b ≠ 0) (hc : k.wrap (a.tdiv b) = c) : Quiet P o T Wd (.int k c) := fun a' w ha _ => by
  simp only [execOp, ho, hx a' ha, hy a' ha]; simp [eqGuard, binOp, Op.intDiv, hc, hb]
theorem q_rem {c : Int} (ho : o.op = .binOp .rem t x y t') (hx : Val T x (.int k a)) (hy : Val T y (.int k b)) (hb : b ≠ 0) (hc : a.tmod b = c) : Quiet P o T Wd (.int k c) := fun a' w ha _ => by
  simp only [execOp, ho, hx a' ha, hy a' ha]; simp [eqGuard, binOp, Op.intDiv, hc, hb]
theorem q_neg {c : Int} (ho : o.op = .unOp .neg t x) (hx : Val T x (.int k a)) (hc : k.wrap (0 - a) = c) : Quiet P o T Wd (.int k c) := fun a' w ha _ => by
  simp only [execOp, ho, hx a' ha]; simp only [Op.unary, Op.intArith, hc]; rfl
theorem q_lss (ho : o.op = .binOp .lss t x y t') (hx : Val T x (.int k a)) (hy : Val T y (.int k b)) : Quiet P o T Wd (.bool (decide (a < b))) := fun a' w ha _ => by
  simp only [execOp, ho, hx a' ha, hy a' ha]; simp [eqGuard, binOp, Op.intCmp]
theorem q_leq (ho : o.op = .binOp .leq t x y t') (hx : Val T x (.int k a)) (hy : Val T y (.int k b)) : Quiet P o T Wd (.bool (decide (a ≤ b))) := fun a' w ha _ => by
  simp only [execOp, ho, hx a' ha, hy a' ha]; simp [eqGuard, binOp, Op.intCmp]
theorem q_gtr (ho : o.op = .binOp .gtr t x y t') (hx : Val T x (.int k a)) (hy : Val T y (.int k b)) : Quiet P o T Wd (.bool (decide (b < a))) := fun a' w ha _ => by
  simp only [execOp, ho, hx a' ha, hy a' ha]; simp [eqGuard, binOp, Op.intCmp]
theorem q_geq (ho : o.op = .binOp .geq t x y t') (hx : Val T x (.int k a)) (hy : Val T y (.int k b)) : Quiet P o T Wd (.bool (decide (b ≤ a))) := fun a' w ha _ => by
  simp only [execOp, ho, hx a' ha, hy a' ha]; simp [eqGuard, binOp, Op.intCmp]
theorem q_eql (ho : o.op = .binOp .eql t x y t') (hx : Val T x (.int k a)) (hy : Val T y (.int k b)) : Quiet P o T Wd (.bool (decide (a = b))) := fun a' w ha _ => by
  simp only [execOp, ho, hx a' ha, hy a' ha]; simp [eqGuard, binOp, Op.intCmp, beq_dec]
theorem q_neq (ho : o.op = .binOp .neq t x y t') (hx : Val T x (.int k a)) (hy : Val T y (.int k b)) : Quiet P o T Wd (.bool (!decide (a = b))) := fun a' w ha _ => by
  simp only [execOp, ho, hx a' ha, hy a' ha]; simp [eqGuard, binOp, Op.intCmp, bne, beq_dec]
theorem q_conv {d s : TypeId} {u : TypeDesc} {c : Int} {k' : IntKind} (ho : o.op = .convert s d x) (hx : Val T x (.int k a)) (hs : P.underlying s = some u) (hd : P.underlying d = some (.int k')) (hc : k'.wrap a = c) : Quiet P o T Wd (.int k' c) := fun a' w ha _ => by
  simp only [execOp, ho, hx a' ha]; simp [convert, run_underlying hs, run_underlying hd, Conv.intToInt, hc]
end
/-! ### strings, bools -/
section
variable {x y : Operand} {t t' : TypeId} {s u : ByteArray}
theorem q_seql (ho : o.op = .binOp .eql t x y t') (hx : Val T x (.string s)) (hy : Val T y (.string u)) : Quiet P o T Wd (.bool (decide (s = u))) := fun a' w ha _ => by
  have e : (s.toList == u.toList) = decide (s = u) := by
    rw [ByteArray.toList_eq, ByteArray.toList_eq, Bool.eq_iff_iff]
    simp only [beq_iff_eq, decide_eq_true_eq]
    constructor
    · intro h; cases s; cases u; simp_all
    · intro h; rw [h]
  simp only [execOp, ho, hx a' ha, hy a' ha]; simp [eqGuard, binOp, Op.stringOp, e]
theorem q_sneq (ho : o.op = .binOp .neq t x y t') (hx : Val T x (.string s)) (hy : Val T y (.string u)) : Quiet P o T Wd (.bool (!decide (s = u))) := fun a' w ha _ => by
  have e : (s.toList == u.toList) = decide (s = u) := by
    rw [ByteArray.toList_eq, ByteArray.toList_eq, Bool.eq_iff_iff]
    simp only [beq_iff_eq, decide_eq_true_eq]
    constructor
    · intro h; cases s; cases u; simp_all
    · intro h; rw [h]
  simp only [execOp, ho, hx a' ha, hy a' ha]; simp [eqGuard, binOp, Op.stringOp, e]
def sLt (s u : ByteArray) : Bool := Op.bytesLess s.toList u.toList
theorem q_slss (ho : o.op = .binOp .lss t x y t') (hx : Val T x (.string s)) (hy : Val T y (.string u)) : Quiet P o T Wd (.bool (sLt s u)) := fun a' w ha _ => by
  simp only [execOp, ho, hx a' ha, hy a' ha]; simp [eqGuard, binOp, Op.stringOp, sLt]
theorem q_sgeq (ho : o.op = .binOp .geq t x y t') (hx : Val T x (.string s)) (hy : Val T y (.string u)) : Quiet P o T Wd (.bool (!sLt s u)) := fun a' w ha _ => by
  simp only [execOp, ho, hx a' ha, hy a' ha]; simp [eqGuard, binOp, Op.stringOp, sLt]
theorem q_sleq (ho : o.op = .binOp .leq t x y t') (hx : Val T x (.string s)) (hy : Val T y (.string u)) : Quiet P o T Wd (.bool (sLt s u || decide (s = u))) := fun a' w ha _ => by
  have e : (s.toList == u.toList) = decide (s = u) := by
    rw [ByteArray.toList_eq, ByteArray.toList_eq, Bool.eq_iff_iff]
    simp only [beq_iff_eq, decide_eq_true_eq]
    constructor
    · intro h; cases s; cases u; simp_all
    · intro h; rw [h]
  simp only [execOp, ho, hx a' ha, hy a' ha]; simp [eqGuard, binOp, Op.stringOp, sLt, e]
theorem q_sadd (ho : o.op = .binOp .add t x y t') (hx : Val T x (.string s)) (hy : Val T y (.string u)) (hb : s.size + u.size ≤ 9223372036854775807) : Quiet P o T Wd (.string (s ++ u)) := fun a' w ha _ => by
  simp only [execOp, ho, hx a' ha, hy a' ha]
  simp [eqGuard, binOp, Op.stringOp, max64]
  omega
theorem q_len_s (ho : o.op = .call { callee := .builtin .len, args := #[x], argTypes := #[t] }) (ht : P.underlying t = some .string) (hx : Val T x (.string s)) : Quiet P o T Wd (.int .i64 s.size) := fun a w ha _ => by
  simp only [execOp, ho]
  simp [resolve, hx a ha, invoke, builtin, Builtin.len_, run_underlying ht, goInt]
theorem q_index_s {k : IntKind} {i : Int} {n : Nat} {b : UInt8} (ho : o.op = .index t x y) (ht : P.underlying t = some .string) (hx : Val T x (.string s)) (hy : Val T y (.int k i)) (hi : i = n) (hb : s.data.toList[n]? = some b) : Quiet P o T Wd (.int .u8 b.toNat) := fun a w ha _ => by
  subst hi
  have hlt : n < s.size := by
    have := (List.getElem?_eq_some_iff.1 hb).1
    simpa using this
  have hg : s[n]? = some b := by
    rw [ByteArray.getElem?_lt' s n hlt]
    have h2 := (List.getElem?_eq_some_iff.1 hb).2
    congr 1
  simp only [execOp, ho, hx a ha, hy a ha]
  simp [Instr.index, asIntOf, run_underlying ht, hg]
theorem q_slice_s {lo hi : Option Operand} {a b : Nat} (ho : o.op = .slice t x lo hi none) (ht : P.underlying t = some .string) (hx : Val T x (.string s))
    (hlo : (lo = none ∧ a = 0) ∨ ∃ z k, lo = some z ∧ Val T z (.int k (a : Int))) (hhi : (hi = none ∧ b = s.size) ∨ ∃ z k, hi = some z ∧ Val T z (.int k (b : Int))) (h1 : a ≤ b) (h2 : b ≤ s.size) : Quiet P o T Wd (.string (s.extract a b)) := fun ac w ha _ => by
  simp only [execOp, ho, hx ac ha]
  rcases hlo with ⟨rfl, rfl⟩ | ⟨z, k, rfl, hz⟩ <;> rcases hhi with ⟨rfl, rfl⟩ | ⟨z', k', rfl, hz'⟩
  · simp [Instr.sliceAt, Instr.slice, run_underlying ht, Instr.sliceBounds]
  · simp [Instr.sliceAt, Instr.slice, run_underlying ht, Instr.sliceBounds, Instr.sliceBound, hz' ac ha, asIntOf, h2]
  · simp [Instr.sliceAt, Instr.slice, run_underlying ht, Instr.sliceBounds, Instr.sliceBound, hz ac ha, asIntOf, h1]
  · simp [Instr.sliceAt, Instr.slice, run_underlying ht, Instr.sliceBounds, Instr.sliceBound, hz ac ha, hz' ac ha, asIntOf, h1, h2]
end
theorem equalIn_bool {t : TypeId} (ht : P.underlying t = some .bool) (d : Nat) (a b : Bool) (w : World) : (Op.equalIn (d + 1) t (.bool a) (.bool b)).run P w = .ok (a == b) w := by
  simp [Op.equalIn, run_underlying ht]
theorem q_beql {x y : Operand} {t t' : TypeId} {a b : Bool} (ho : o.op = .binOp .eql t x y t') (ht : P.underlying t = some .bool) (hx : Val T x (.bool a)) (hy : Val T y (.bool b)) : Quiet P o T Wd (.bool (a == b)) := fun a' w ha _ => by
  have e : (binOp .eql t (.bool a) (.bool b)).run P w = .ok (.bool (a == b)) w := by
    simp only [binOp]; simp [Op.equal, Op.maxDepth, equalIn_bool ht 9999 a b w]
  simp only [execOp, ho, hx a' ha, hy a' ha]; simp [eqGuard, e]
theorem q_bneq {x y : Operand} {t t' : TypeId} {a b : Bool} (ho : o.op = .binOp .neq t x y t') (ht : P.underlying t = some .bool) (hx : Val T x (.bool a)) (hy : Val T y (.bool b)) : Quiet P o T Wd (.bool (!(a == b))) := fun a' w ha _ => by
  have e : (binOp .neq t (.bool a) (.bool b)).run P w = .ok (.bool (!(a == b))) w := by
    simp only [binOp]; simp [Op.equal, Op.maxDepth, equalIn_bool ht 9999 a b w]
  simp only [execOp, ho, hx a' ha, hy a' ha]; simp [eqGuard, e]
theorem q_notN {x : Operand} {t : TypeId} {p : Prop} [Decidable p] (ho : o.op = .unOp .not t x) (hx : Val T x (.bool (!decide p))) : Quiet P o T Wd (.bool (decide p)) := fun a w ha _ => by
  have := q_not (P := P) (Wd := fun _ => True) ho hx a w ha trivial
  simpa using this

/-! ### slices as values -/
section
variable {x y : Operand} {t t' : TypeId} {A : Option Addr} {n c : Nat}
theorem q_len {e : TypeId} (ho : o.op = .call { callee := .builtin .len, args := #[x], argTypes := #[t] }) (ht : P.underlying t = some (.slice e)) (hx : Val T x (.slice A n c)) : Quiet P o T Wd (.int .i64 n) := fun a w ha _ => by
  simp only [execOp, ho]
  simp [resolve, hx a ha, invoke, builtin, Builtin.len_, run_underlying ht, goInt]
theorem q_indexAddr {e : TypeId} {sz : Nat} {ad : Addr} {k : IntKind} {i : Int} {j : Nat} (ho : o.op = .indexAddr t x y) (ht : P.underlying t = some (.slice e)) (he : (P.info? e).map (·.size) = some sz) (hx : Val T x (.slice (some ad) n c)) (hy : Val T y (.int k i)) (hi : i = j) (hj : j < n) :
    Quiet P o T Wd (.pointer (some (ad.add (j * sz)))) := fun a w ha _ => by
  subst hi
  obtain ⟨i0, h1, h2⟩ := Option.map_eq_some_iff.1 he
  simp only [execOp, ho, hx a ha, hy a ha]
  simp [Instr.indexAt, asIntOf, run_underlying ht, sizeOf, typeInfo, h1, h2, hj]
theorem q_slice {e : TypeId} {sz : Nat} {lo hi : Option Operand} {a b : Nat} (ho : o.op = .slice t x lo hi none) (ht : P.underlying t = some (.slice e)) (he : (P.info? e).map (·.size) = some sz) (hx : Val T x (.slice A n c))
    (hlo : (lo = none ∧ a = 0) ∨ ∃ z k, lo = some z ∧ Val T z (.int k (a : Int))) (hhi : (hi = none ∧ b = n) ∨ ∃ z k, hi = some z ∧ Val T z (.int k (b : Int))) (h1 : a ≤ b) (h2 : b ≤ c) :
    Quiet P o T Wd (.slice (if c = a then A else A.map (·.add (a * sz))) (b - a) (c - a)) := fun ac w ha _ => by
  obtain ⟨i0, g1, g2⟩ := Option.map_eq_some_iff.1 he
  simp only [execOp, ho, hx ac ha]
  rcases hlo with ⟨rfl, rfl⟩ | ⟨z, k, rfl, hz⟩ <;> rcases hhi with ⟨rfl, rfl⟩ | ⟨z', k', rfl, hz'⟩
  · simp [Instr.sliceAt, Instr.slice, run_underlying ht, Instr.sliceBounds, sizeOf, typeInfo, g1, g2]
  · simp [Instr.sliceAt, Instr.slice, run_underlying ht, Instr.sliceBounds, Instr.sliceBound, hz' ac ha, asIntOf, h2, sizeOf, typeInfo, g1, g2]
  · simp [Instr.sliceAt, Instr.slice, run_underlying ht, Instr.sliceBounds, Instr.sliceBound, hz ac ha, asIntOf, h1, sizeOf, typeInfo, g1, g2]
  · simp [Instr.sliceAt, Instr.slice, run_underlying ht, Instr.sliceBounds, Instr.sliceBound, hz ac ha, hz' ac ha, asIntOf, h1, h2, sizeOf, typeInfo, g1, g2]
theorem q_slice3 {e : TypeId} {sz : Nat} {lo hi mx : Operand} {k k' k'' : IntKind} {a b m : Nat} (ho : o.op = .slice t x (some lo) (some hi) (some mx)) (ht : P.underlying t = some (.slice e)) (he : (P.info? e).map (·.size) = some sz) (hx : Val T x (.slice A n c))
    (hlo : Val T lo (.int k (a : Int))) (hhi : Val T hi (.int k' (b : Int))) (hmx : Val T mx (.int k'' (m : Int))) (h1 : a ≤ b) (h2 : b ≤ m) (h3 : m ≤ c) :
    Quiet P o T Wd (.slice (if m = a then A else A.map (·.add (a * sz))) (b - a) (m - a)) := fun ac w ha _ => by
  obtain ⟨i0, g1, g2⟩ := Option.map_eq_some_iff.1 he
  simp only [execOp, ho, hx ac ha]
  simp [Instr.sliceAt, Instr.slice, run_underlying ht, Instr.sliceBounds, Instr.sliceBound, hlo ac ha, hhi ac ha, hmx ac ha, asIntOf, h1, h2, h3, sizeOf, typeInfo, g1, g2]
/-- 's == nil' -/
theorem equalIn_nil {e : TypeId} (ht : P.underlying t = some (.slice e)) (d : Nat) (w : World) : (Op.equalIn (d + 1) t (.slice A n c) (.slice none 0 0)).run P w = .ok A.isNone w := by
  cases A <;> simp [Op.equalIn, run_underlying ht]
theorem q_eqnil {e : TypeId} (ho : o.op = .binOp .eql t x y t') (ht : P.underlying t = some (.slice e)) (hx : Val T x (.slice A n c)) (hy : Val T y (.slice none 0 0)) : Quiet P o T Wd (.bool A.isNone) := fun a' w ha _ => by
  have h : (binOp .eql t (.slice A n c) (.slice none 0 0)).run P w = .ok (.bool A.isNone) w := by
    simp only [binOp]; simp [Op.equal, Op.maxDepth, equalIn_nil ht 9999 w]
  simp only [execOp, ho, hx a' ha, hy a' ha]; simp [eqGuard, h]
end
theorem q_fieldAddr {x : Operand} {s : TypeId} {f : Nat} {ad : Addr} {off : Nat} (ho : o.op = .fieldAddr s x f) (hx : Val T x (.pointer (some ad)))
    (hs : ∀ w, (Instr.fieldAt s (.pointer (some ad)) f).run P w = .ok (.pointer (some (ad.add off))) w) : Quiet P o T Wd (.pointer (some (ad.add off))) := fun a w ha _ => by
  simp only [execOp, ho, hx a ha]; simp [hs w]
theorem q_fieldAddrA {x : Operand} {s : TypeId} {f : Nat} {ad : Addr} {m off k : Nat} (ho : o.op = .fieldAddr s x f) (hx : Val T x (.pointer (some (ad.add m))))
    (hs : ∀ w, (Instr.fieldAt s (.pointer (some (ad.add m))) f).run P w = .ok (.pointer (some ((ad.add m).add off))) w) (hk : m + off = k) : Quiet P o T Wd (.pointer (some (ad.add k))) := fun a w ha _ => by
  subst hk
  simp only [execOp, ho, hx a ha]; simp [hs w, add_add]
theorem q_extract {x : Operand} {i : Nat} {vs : Array Value} {v : Value} (ho : o.op = .extract x i) (hx : Val T x (.tuple vs)) (hv : vs[i]? = some v) : Quiet P o T Wd v := fun a w ha _ => by
  simp only [execOp, ho, hx a ha]; simp [Instr.extract, hv]
theorem q_makeFunc {fn : Fn} {first captured : Array Operand} {vs us : Array Value} (ho : o.op = .makeFunc fn first captured) (h1 : ∀ a, Holds T a → first.map a.eval = vs) (h2 : ∀ a, Holds T a → captured.map a.eval = us) : Quiet P o T Wd (.func fn vs us) := fun a w ha _ => by
  simp only [execOp, ho, h1 a ha, h2 a ha]; rfl
/-- An operation of closed form: what it comes to is reckoned from its operands' values. -/
theorem q_by {v : Value} (h : ∀ a : Act, Holds T a → ∀ w, (execOp a.eval o).run P w = .ok (.value v) w) : Quiet P o T Wd v := fun a w ha _ => h a ha w

/-! ### calls -/
theorem c_call {f : FuncId} {fn : Func} {as_ : Array Operand} {ts : Array TypeId} {args : Array Value} (ho : o.op = .call { callee := .value (.func f), args := as_, argTypes := ts }) (hf : P.funcs[f]? = some fn) (hb : fn.body.isSome = true) (hn : (fn.name == "runtime.NumGoroutine") = false)
    (ha : ∀ a : Act, Holds T a → as_.map a.eval = args) : CallE P o T f args := fun a w hT => by
  have e1 : ¬ fn.body = none := by intro h; rw [h] at hb; cases hb
  have e2 : ¬ fn.name = "runtime.NumGoroutine" := by simpa using hn
  simp only [execOp, ho]
  simp [e2, resolve, ha a hT, Act.eval, Deferred.ofValue, invoke, callFunc, program, Sem.run, hf, e1]
theorem c_callv {x : Operand} {f : FuncId} {fn : Func} {as_ : Array Operand} {ts : Array TypeId} {args us : Array Value} (ho : o.op = .call { callee := .value x, args := as_, argTypes := ts }) (hx : Val T x (.func (.func f) #[] us)) (hf : P.funcs[f]? = some fn) (hb : fn.body.isSome = true) (hn : (fn.name == "runtime.NumGoroutine") = false)
    (ha : ∀ a : Act, Holds T a → as_.map a.eval = args) : CallE P o T f (args ++ us) := fun a w hT => by
  have e1 : ¬ fn.body = none := by intro h; rw [h] at hb; cases hb
  have e2 : ¬ fn.name = "runtime.NumGoroutine" := by simpa using hn
  simp only [execOp, ho]
  simp [e2, resolve, ha a hT, hx a hT, Deferred.ofValue, invoke, callFunc, program, Sem.run, hf, e1]
theorem args0 : ∀ a : Act, Holds T a → (#[] : Array Operand).map a.eval = #[] := fun _ _ => by simp
theorem args1 {x : Operand} {v : Value} (h : Val T x v) : ∀ a : Act, Holds T a → #[x].map a.eval = #[v] := fun a ha => by simp [h a ha]
theorem args2 {x y : Operand} {v u : Value} (h : Val T x v) (k : Val T y u) : ∀ a : Act, Holds T a → #[x, y].map a.eval = #[v, u] := fun a ha => by simp [h a ha, k a ha]
theorem args3 {x y z : Operand} {v u r : Value} (h : Val T x v) (k : Val T y u) (j : Val T z r) : ∀ a : Act, Holds T a → #[x, y, z].map a.eval = #[v, u, r] := fun a ha => by simp [h a ha, k a ha, j a ha]
theorem args4 {x y z q : Operand} {v u r s : Value} (h : Val T x v) (k : Val T y u) (j : Val T z r) (i : Val T q s) : ∀ a : Act, Holds T a → #[x, y, z, q].map a.eval = #[v, u, r, s] := fun a ha => by simp [h a ha, k a ha, j a ha, i a ha]
theorem args5 {x y z q p : Operand} {v u r s t : Value} (h : Val T x v) (k : Val T y u) (j : Val T z r) (i : Val T q s) (g : Val T p t) : ∀ a : Act, Holds T a → #[x, y, z, q, p].map a.eval = #[v, u, r, s, t] := fun a ha => by simp [h a ha, k a ha, j a ha, i a ha, g a ha]
end
end Go.Proofs.YtbcdcakcmdcafaaGreat

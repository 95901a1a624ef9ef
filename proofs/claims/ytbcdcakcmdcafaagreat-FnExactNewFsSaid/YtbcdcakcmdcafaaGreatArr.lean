/- What is proved: arrays of whole numbers in memory and as values; the lesser of two numbers. No condition. -/
import Derived.Test.YtbcdcakcmdcafaaGreatSortC
import Derived.Test.YtbcdcakcmdcafaaGreatMFs
namespace Go.Proofs.YtbcdcakcmdcafaaGreat
open Go Go.RowKit
set_option linter.unusedVariables false
set_option linter.unusedSimpArgs false
section
variable {P : Program} {T : Slots} {Wd : World → Prop} {o : Oper} {x y : Operand} {t e : TypeId}
theorem q_indexAddrA {sz n j : Nat} {ad : Addr} {k : IntKind} {i : Int} (ho : o.op = .indexAddr t x y) (ht : P.underlying t = some (.array n e)) (he : (P.info? e).map (·.size) = some sz) (hx : Val T x (.pointer (some ad))) (hy : Val T y (.int k i)) (hi : i = j) (hj : j < n) :
    Quiet P o T Wd (.pointer (some (ad.add (j * sz)))) := fun a w ha _ => by
  subst hi
  obtain ⟨i0, h1, h2⟩ := Option.map_eq_some_iff.1 he
  simp only [execOp, ho, hx a ha, hy a ha]
  simp [Instr.indexAt, asIntOf, run_underlying ht, Instr.sureAddr, sizeOf, typeInfo, h1, h2, hj]
theorem q_indexArr {n j : Nat} {L : List Int} {k : IntKind} {i z : Int} (ho : o.op = .index t x y) (ht : P.underlying t = some (.array n e)) (he : (P.info? e).map (·.size) = some 1) (hg : AggIs P e false) (hx : Val T x (.agg (L.map (Value.int .i64)).toArray)) (hy : Val T y (.int k i)) (hi : i = j) (hj : L[j]? = some z) (hl : L.length = n) :
    Quiet P o T Wd (.int .i64 z) := fun a w ha _ => by
  subst hi
  obtain ⟨i0, h1, h2⟩ := Option.map_eq_some_iff.1 he
  obtain ⟨d, hd, hd2⟩ := hg.ex
  have hag := run_isAgg hd w
  rw [hd2] at hag
  have hlt : j < n := by rw [← hl]; exact (List.getElem?_eq_some_iff.1 hj).1
  have hp : (part e (L.map (Value.int .i64)).toArray (j * 1)).run P w = .ok (.int .i64 z) w := by
    unfold part
    rw [Sem.run_bind, hag]
    simp [hj]
  simp only [execOp, ho, hx a ha, hy a ha]
  simp [Instr.index, asIntOf, run_underlying ht, sizeOf, typeInfo, h1, h2, hlt]
  rw [Nat.mul_one] at hp
  simp [hp]
theorem q_min {ts : Array TypeId} {a b : Int} {k : IntKind} (ho : o.op = .call { callee := .builtin .min, args := #[x, y], argTypes := ts }) (hx : Val T x (.int k a)) (hy : Val T y (.int k b)) : Quiet P o T Wd (.int k (minI a b)) := fun ac w ha _ => by
  simp only [execOp, ho]
  simp [resolve, hx ac ha, hy ac ha, invoke, builtin, Builtin.min_, Builtin.min2, minI_sw]
end
theorem set1_at {v : Value} : ∀ {l : List Value} {n : Nat}, n < l.length → Set1 l n v (l.set n v)
  | _ :: _, 0, _ => .z
  | _ :: _, n + 1, h => .s (set1_at (by simpa using h))
  | [], _, h => by simp at h
theorem put_at {v : Value} {l : List Value} {n : Nat} (h : n < l.length) : PutN l n [v] (l.set n v) := .c (set1_at h) .n
theorem put_all : ∀ {pre cs fl : List Value}, fl.length = cs.length → PutN (pre ++ fl) pre.length cs (pre ++ cs)
  | pre, [], [], _ => by simpa using PutN.n
  | pre, c :: cs, f :: fl, h => by
    have h1 : Set1 (pre ++ f :: fl) pre.length c ((pre ++ [c]) ++ fl) := by
      have := set1_at (v := c) (l := pre ++ f :: fl) (n := pre.length) (by simp)
      simpa [List.set_append] using this
    have h2 := put_all (pre := pre ++ [c]) (cs := cs) (fl := fl) (by simpa using h)
    refine .c h1 ?_
    simpa using h2
  | _, [], _ :: _, h => by simp at h
  | _, _ :: _, [], h => by simp at h
theorem put_whole {cs fl : List Value} (h : fl.length = cs.length) : PutN fl 0 cs cs := by simpa using put_all (pre := []) h
theorem map_set (L : List Int) (j : Nat) (z : Int) : (L.map (Value.int .i64)).set j (.int .i64 z) = (L.set j z).map (Value.int .i64) := by rw [List.map_set]
theorem put_arr {L : List Int} {j : Nat} {z : Int} (h : j < L.length) : PutN (L.map (Value.int .i64)) (j * 1) [.int .i64 z] ((L.set j z).map (Value.int .i64)) := by
  rw [Nat.mul_one, ← map_set]
  exact put_at (by rwa [List.length_map])
theorem ones_map (L : List Int) : ∀ u, u ∈ L.map (Value.int .i64) → u.oneCell' = true := fun u hu => by
  obtain ⟨z, _, rfl⟩ := List.mem_map.1 hu
  rfl
end Go.Proofs.YtbcdcakcmdcafaaGreat

/- What is proved: the kinds of this program's types, laid open and put together; facts on its types. No condition. -/
import Derived.Test.YtbcdcakcmdcafaaProg
import Derived.Test.YtbcdcakcmdcafaaRows2
import Derived.Test.YtbcdcakcmdcafaaData
import Derived.Test.YtbcdcakcmdcafaaStrs
namespace Go.Proofs.Ytbcdcakcmdcafaa
open Go Go.RowKit
set_option maxRecDepth 100000
set_option linter.unusedVariables false
set_option linter.unusedSimpArgs false
theorem u_2 : Try.prog.underlying 2 = some (.int .i64) := by kernel_rfl
theorem sz_2 : (Try.prog.info? 2).map (·.size) = some 1 := by kernel_rfl
theorem z_2 : (Try.prog.info? 2).map (·.zero) = some (some (.int .i64 0)) := by kernel_rfl
theorem ag_2 : AggIs Try.prog 2 false := by unfold AggIs; kernel_rfl
theorem u_3 : Try.prog.underlying 3 = some (.int .i64) := by kernel_rfl
theorem sz_3 : (Try.prog.info? 3).map (·.size) = some 1 := by kernel_rfl
theorem z_3 : (Try.prog.info? 3).map (·.zero) = some (some (.int .i64 0)) := by kernel_rfl
theorem ag_3 : AggIs Try.prog 3 false := by unfold AggIs; kernel_rfl
theorem u_4 : Try.prog.underlying 4 = some .bool := by kernel_rfl
theorem sz_4 : (Try.prog.info? 4).map (·.size) = some 1 := by kernel_rfl
theorem z_4 : (Try.prog.info? 4).map (·.zero) = some (some (.bool false)) := by kernel_rfl
theorem ag_4 : AggIs Try.prog 4 false := by unfold AggIs; kernel_rfl
theorem u_5 : Try.prog.underlying 5 = some (.int .u8) := by kernel_rfl
theorem sz_5 : (Try.prog.info? 5).map (·.size) = some 1 := by kernel_rfl
theorem z_5 : (Try.prog.info? 5).map (·.zero) = some (some (.int .u8 0)) := by kernel_rfl
theorem ag_5 : AggIs Try.prog 5 false := by unfold AggIs; kernel_rfl
theorem u_9 : Try.prog.underlying 9 = some .string := by kernel_rfl
theorem sz_9 : (Try.prog.info? 9).map (·.size) = some 1 := by kernel_rfl
theorem z_9 : (Try.prog.info? 9).map (·.zero) = some (some (.string ⟨#[]⟩)) := by kernel_rfl
theorem ag_9 : AggIs Try.prog 9 false := by unfold AggIs; kernel_rfl
abbrev kSl_2 : Kd (List Int) := kslice 2 8 (kint .i64)
theorem u_39 : Try.prog.underlying 39 = some (.slice 2) := by kernel_rfl
theorem ag_39 : AggIs Try.prog 39 false := by unfold AggIs; kernel_rfl
theorem z_39 : (Try.prog.info? 39).map (·.zero) = some (some (.slice none 0 0)) := by kernel_rfl
theorem sz_39 : (Try.prog.info? 39).map (·.size) = some 1 := by kernel_rfl
theorem inf_2 : (Try.prog.info? 2).map (fun i => (i.size, i.bytes, i.zero)) = some ((kint .i64).sz, 8, some (.int .i64 0)) := by kernel_rfl
def kT_118 : Kd DEnt := kiso (kpair kstr (kint .i64)) (fun x => (x.name, x.ino))
theorem sz_118 : (Try.prog.info? 118).map (·.size) = some 2 := by kernel_rfl
theorem z_118 : (Try.prog.info? 118).map (·.zero) = some (some (.agg #[.string ⟨#[]⟩, .int .i64 0])) := by kernel_rfl
theorem ag_118 : AggIs Try.prog 118 true := by unfold AggIs; kernel_rfl
theorem bl_118 : BuildOk Try.prog 118 (.agg #[.string ⟨#[]⟩, .int .i64 0]) #[(0, 1), (1, 1)] := ⟨by kernel_rfl, by kernel_rfl, fun w => by kernel_rfl⟩
theorem fa_118_0 (ad : Addr) (w : World) : (Instr.fieldAt 118 (.pointer (some ad)) 0).run Try.prog w = .ok (.pointer (some (ad.add 0))) w := by kernel_rfl
theorem fa_118_1 (ad : Addr) (w : World) : (Instr.fieldAt 118 (.pointer (some ad)) 1).run Try.prog w = .ok (.pointer (some (ad.add 1))) w := by kernel_rfl
theorem ent_gd_118 : Try.prog.eqGuardType Try.prog.depth 118 = false := by kernel_rfl
theorem ent_eq_118 (x y : DEnt) (w : World) : (Op.equalIn 10000 118 (.agg #[.string x.name, .int .i64 x.ino]) (.agg #[.string y.name, .int .i64 y.ino])).run Try.prog w = .ok (decide (x = y)) w := by
  rw [run_equalIn_struct w 9999 118 _ _ (by kernel_rfl) (by kernel_rfl)]
  rw [show (Try.prog.fieldsOf 118).toList = [(Try.prog.fieldsOf 118)[0]!, (Try.prog.fieldsOf 118)[1]!] by kernel_rfl]
  refine ((eqFs_cons (a := .string x.name) (b := .string y.name) (by kernel_rfl) (fun w => by kernel_rfl) (fun w => by kernel_rfl) (fun w => run_equalIn_string w 9998 _ x.name y.name (by kernel_rfl)) (eqFs_cons (a := .int .i64 x.ino) (b := .int .i64 y.ino) (by kernel_rfl) (fun w => by kernel_rfl) (fun w => by kernel_rfl) (fun w => run_equalIn_int w 9998 _ .i64 .i64 x.ino y.ino (by kernel_rfl)) eqFs_nil)) w).trans ?_
  congr 1; cases x; cases y; simp only [beq_str, beq_int, Bool.and_true, DEnt.mk.injEq, Bool.decide_and]
theorem kT_118_ro {w : World} {F : Bs} {x : DEnt} {cs : List Value} (h : kT_118.ro w F x cs) : cs = [.string x.name, .int .i64 x.ino] ∧ x.name.size ≤ 140737488351232 := by
  obtain ⟨_, _, rfl, ⟨rfl, s0⟩, ⟨rfl, -⟩⟩ := h
  exact ⟨rfl, s0⟩
theorem kT_118_mk {w : World} {F : Bs} (x : DEnt) (s0 : x.name.size ≤ 140737488351232) : kT_118.ro w F x [.string x.name, .int .i64 x.ino] :=
  ⟨_, _, rfl, ⟨rfl, s0⟩, ⟨rfl, trivial⟩⟩
theorem kT_118_own {w : World} {S : Bs} {x : DEnt} {cs : List Value} (h : kT_118.own w S x cs) : cs = [.string x.name, .int .i64 x.ino] ∧ Star [] w S ∧ x.name.size ≤ 140737488351232 := by
  obtain ⟨_, _, rfl, a0⟩ := h
  obtain ⟨p0, q0, b0, c0, i0, j0, k0⟩ := star2 a0
  obtain ⟨rfl, s0⟩ := b0
  obtain ⟨rfl, -⟩ := c0
  exact ⟨rfl, trivial, s0⟩
theorem kT_118_op {x : DEnt} {cs : List Value} (w : World) (S : Bs) (h : Star [ownA kT_118 x cs] w S) : ∃ g : Unit, (cs = [.string x.name, .int .i64 x.ino] ∧ x.name.size ≤ 140737488351232) ∧ Star [] w S := by
  obtain ⟨h1, h2, s0⟩ := kT_118_own (show kT_118.own w S x cs from h.head (c := ownA kT_118 x cs))
  exact ⟨(), ⟨h1, s0⟩, h2⟩
theorem kT_118_omk {w : World} {S : Bs} (x : DEnt) (h : Star [] w S) (s0 : x.name.size ≤ 140737488351232) : kT_118.own w S x [.string x.name, .int .i64 x.ino] := by
  have m1 : Mk kstr x.name [.string x.name] [] := (mk_str s0)
  have m2 : Mk (kint .i64) x.ino [.int .i64 x.ino] [] := mk_int
  have m3 : Mk (kpair kstr (kint .i64)) (x.name, x.ino) ([.string x.name] ++ [.int .i64 x.ino]) ([] ++ []) := mk_pair m1 m2
  have m0 : Mk kT_118 x ([.string x.name] ++ [.int .i64 x.ino]) ([] ++ []) := m3
  exact m0 w S h
def RA_118 (x : DEnt) (r : Value) (l : List Asn) : Prop := r = .agg #[.string x.name, .int .i64 x.ino] ∧ l = [] ∧ x.name.size ≤ 140737488351232
theorem zero_118 (w : World) (S : Bs) : kT_118.own w S (⟨⟨#[]⟩, 0⟩ : DEnt) [.string ⟨#[]⟩, .int .i64 0] := kT_118_omk (⟨⟨#[]⟩, 0⟩ : DEnt) (trivial) (by decide)
def PA_118 (g e s : Nat) (post : List Value) (x : DEnt) (r : Value) (l : List Asn) : Prop := r = .tuple #[] ∧ l = [rowA g e s 1 ((.string x.name) :: (.int .i64 x.ino) :: post)] ∧ x.name.size ≤ 140737488351232
abbrev kSl_118 : Kd (List DEnt) := kslice 118 24 kT_118
theorem u_82 : Try.prog.underlying 82 = some (.slice 118) := by kernel_rfl
theorem ag_82 : AggIs Try.prog 82 false := by unfold AggIs; kernel_rfl
theorem z_82 : (Try.prog.info? 82).map (·.zero) = some (some (.slice none 0 0)) := by kernel_rfl
theorem sz_82 : (Try.prog.info? 82).map (·.size) = some 1 := by kernel_rfl
theorem inf_118 : (Try.prog.info? 118).map (fun i => (i.size, i.bytes, i.zero)) = some (kT_118.sz, 24, some (.agg #[.string ⟨#[]⟩, .int .i64 0])) := by kernel_rfl
def kT_84 : Kd DInode := kiso (kpair (kint .i64) (kpair (kint .i64) (kpair (kint .i64) (kpair kSl_2 kSl_118)))) (fun x => (x.kind, x.links, x.size, x.blocks, x.ents))
theorem sz_84 : (Try.prog.info? 84).map (·.size) = some 5 := by kernel_rfl
theorem z_84 : (Try.prog.info? 84).map (·.zero) = some (some (.agg #[.int .i64 0, .int .i64 0, .int .i64 0, .slice none 0 0, .slice none 0 0])) := by kernel_rfl
theorem ag_84 : AggIs Try.prog 84 true := by unfold AggIs; kernel_rfl
theorem bl_84 : BuildOk Try.prog 84 (.agg #[.int .i64 0, .int .i64 0, .int .i64 0, .slice none 0 0, .slice none 0 0]) #[(0, 1), (1, 1), (2, 1), (3, 1), (4, 1)] := ⟨by kernel_rfl, by kernel_rfl, fun w => by kernel_rfl⟩
theorem fa_84_0 (ad : Addr) (w : World) : (Instr.fieldAt 84 (.pointer (some ad)) 0).run Try.prog w = .ok (.pointer (some (ad.add 0))) w := by kernel_rfl
theorem fa_84_1 (ad : Addr) (w : World) : (Instr.fieldAt 84 (.pointer (some ad)) 1).run Try.prog w = .ok (.pointer (some (ad.add 1))) w := by kernel_rfl
theorem fa_84_2 (ad : Addr) (w : World) : (Instr.fieldAt 84 (.pointer (some ad)) 2).run Try.prog w = .ok (.pointer (some (ad.add 2))) w := by kernel_rfl
theorem fa_84_3 (ad : Addr) (w : World) : (Instr.fieldAt 84 (.pointer (some ad)) 3).run Try.prog w = .ok (.pointer (some (ad.add 3))) w := by kernel_rfl
theorem fa_84_4 (ad : Addr) (w : World) : (Instr.fieldAt 84 (.pointer (some ad)) 4).run Try.prog w = .ok (.pointer (some (ad.add 4))) w := by kernel_rfl
theorem kT_84_ro {w : World} {F : Bs} {x : DInode} {cs : List Value} (h : kT_84.ro w F x cs) : ∃ v3 v4, cs = [.int .i64 x.kind, .int .i64 x.links, .int .i64 x.size, v3, v4] ∧ kSl_2.ro w F x.blocks [v3] ∧ kSl_118.ro w F x.ents [v4] := by
  obtain ⟨_, _, rfl, ⟨rfl, -⟩, ⟨_, _, rfl, ⟨rfl, -⟩, ⟨_, _, rfl, ⟨rfl, -⟩, ⟨_, _, rfl, h3, h4⟩⟩⟩⟩ := h
  obtain ⟨v3, rfl⟩ := sl_one h3
  obtain ⟨v4, rfl⟩ := sl_one h4
  exact ⟨v3, v4, rfl, h3, h4⟩
theorem kT_84_mk {w : World} {F : Bs} (x : DInode) {v3 : Value} {v4 : Value} (h3 : kSl_2.ro w F x.blocks [v3]) (h4 : kSl_118.ro w F x.ents [v4]) : kT_84.ro w F x [.int .i64 x.kind, .int .i64 x.links, .int .i64 x.size, v3, v4] :=
  ⟨_, _, rfl, ⟨rfl, trivial⟩, ⟨_, _, rfl, ⟨rfl, trivial⟩, ⟨_, _, rfl, ⟨rfl, trivial⟩, ⟨_, _, rfl, h3, h4⟩⟩⟩⟩
theorem kT_84_own {w : World} {S : Bs} {x : DInode} {cs : List Value} (h : kT_84.own w S x cs) : ∃ v3 v4, cs = [.int .i64 x.kind, .int .i64 x.links, .int .i64 x.size, v3, v4] ∧ Star [ownA kSl_2 x.blocks [v3], ownA kSl_118 x.ents [v4]] w S := by
  obtain ⟨_, _, rfl, a0⟩ := h
  obtain ⟨p0, q0, b0, c0, i0, j0, k0⟩ := star2 a0
  obtain ⟨rfl, -⟩ := b0
  obtain ⟨_, _, rfl, a1⟩ := c0
  obtain ⟨p1, q1, b1, c1, i1, j1, k1⟩ := star2 a1
  obtain ⟨rfl, -⟩ := b1
  obtain ⟨_, _, rfl, a2⟩ := c1
  obtain ⟨p2, q2, b2, c2, i2, j2, k2⟩ := star2 a2
  obtain ⟨rfl, -⟩ := b2
  obtain ⟨_, _, rfl, a3⟩ := c2
  obtain ⟨p3, q3, b3, c3, i3, j3, k3⟩ := star2 a3
  obtain ⟨v3, rfl⟩ := osl_one b3
  have g4 := Star.one (c := ownA kSl_2 x.blocks [v3]) b3
  obtain ⟨v4, rfl⟩ := osl_one c3
  have g5 := Star.one (c := ownA kSl_118 x.ents [v4]) c3
  have g6 := g4.app g5 i3 j3 k3
  have g7 := g6.up j2
  have g8 := g7.up j1
  have g9 := g8.up j0
  exact ⟨v3, v4, rfl, g9⟩
theorem kT_84_op {x : DInode} {cs : List Value} (w : World) (S : Bs) (h : Star [ownA kT_84 x cs] w S) : ∃ g : Value × Value, cs = [.int .i64 x.kind, .int .i64 x.links, .int .i64 x.size, g.1, g.2] ∧ Star [ownA kSl_2 x.blocks [g.1], ownA kSl_118 x.ents [g.2]] w S := by
  obtain ⟨v3, v4, h1, h2⟩ := kT_84_own (show kT_84.own w S x cs from h.head (c := ownA kT_84 x cs))
  exact ⟨(v3, v4), h1, h2⟩
theorem kT_84_omk {w : World} {S : Bs} (x : DInode) {v3 : Value} {v4 : Value} (h : Star [ownA kSl_2 x.blocks [v3], ownA kSl_118 x.ents [v4]] w S) : kT_84.own w S x [.int .i64 x.kind, .int .i64 x.links, .int .i64 x.size, v3, v4] := by
  have m1 : Mk (kint .i64) x.kind [.int .i64 x.kind] [] := mk_int
  have m2 : Mk (kint .i64) x.links [.int .i64 x.links] [] := mk_int
  have m3 : Mk (kint .i64) x.size [.int .i64 x.size] [] := mk_int
  have m4 : Mk kSl_2 x.blocks [v3] [ownA kSl_2 x.blocks [v3]] := mk_leaf
  have m5 : Mk kSl_118 x.ents [v4] [ownA kSl_118 x.ents [v4]] := mk_leaf
  have m6 : Mk (kpair kSl_2 kSl_118) (x.blocks, x.ents) ([v3] ++ [v4]) ([ownA kSl_2 x.blocks [v3]] ++ [ownA kSl_118 x.ents [v4]]) := mk_pair m4 m5
  have m7 : Mk (kpair (kint .i64) (kpair kSl_2 kSl_118)) (x.size, (x.blocks, x.ents)) ([.int .i64 x.size] ++ ([v3] ++ [v4])) ([] ++ ([ownA kSl_2 x.blocks [v3]] ++ [ownA kSl_118 x.ents [v4]])) := mk_pair m3 m6
  have m8 : Mk (kpair (kint .i64) (kpair (kint .i64) (kpair kSl_2 kSl_118))) (x.links, (x.size, (x.blocks, x.ents))) ([.int .i64 x.links] ++ ([.int .i64 x.size] ++ ([v3] ++ [v4]))) ([] ++ ([] ++ ([ownA kSl_2 x.blocks [v3]] ++ [ownA kSl_118 x.ents [v4]]))) := mk_pair m2 m7
  have m9 : Mk (kpair (kint .i64) (kpair (kint .i64) (kpair (kint .i64) (kpair kSl_2 kSl_118)))) (x.kind, (x.links, (x.size, (x.blocks, x.ents)))) ([.int .i64 x.kind] ++ ([.int .i64 x.links] ++ ([.int .i64 x.size] ++ ([v3] ++ [v4])))) ([] ++ ([] ++ ([] ++ ([ownA kSl_2 x.blocks [v3]] ++ [ownA kSl_118 x.ents [v4]])))) := mk_pair m1 m8
  have m0 : Mk kT_84 x ([.int .i64 x.kind] ++ ([.int .i64 x.links] ++ ([.int .i64 x.size] ++ ([v3] ++ [v4])))) ([] ++ ([] ++ ([] ++ ([ownA kSl_2 x.blocks [v3]] ++ [ownA kSl_118 x.ents [v4]])))) := m9
  exact m0 w S h
def RA_84 (x : DInode) (r : Value) (l : List Asn) : Prop := ∃ v3 v4, r = .agg #[.int .i64 x.kind, .int .i64 x.links, .int .i64 x.size, v3, v4] ∧ l = [ownA kSl_2 x.blocks [v3], ownA kSl_118 x.ents [v4]]
theorem zero_84 (w : World) (S : Bs) : kT_84.own w S (⟨0, 0, 0, [], []⟩ : DInode) [.int .i64 0, .int .i64 0, .int .i64 0, .slice none 0 0, .slice none 0 0] := kT_84_omk (⟨0, 0, 0, [], []⟩ : DInode) (⟨fun _ => False, fun _ => False, own_nil _ _ none, ⟨fun _ => False, fun _ => False, own_nil _ _ none, trivial, fun _ h => h.elim, fun _ h => h.elim, fun _ h => h.elim⟩, fun _ h => h.elim, fun _ h => h.elim, fun _ h => h.elim⟩)
def PA_84 (g e s : Nat) (post : List Value) (x : DInode) (r : Value) (l : List Asn) : Prop := ∃ v3 v4, r = .tuple #[] ∧ l = [rowA g e s 1 ((.int .i64 x.kind) :: (.int .i64 x.links) :: (.int .i64 x.size) :: v3 :: v4 :: post), ownA kSl_2 x.blocks [v3], ownA kSl_118 x.ents [v4]]
abbrev kSl_84 : Kd (List DInode) := kslice 84 72 kT_84
theorem u_22 : Try.prog.underlying 22 = some (.slice 84) := by kernel_rfl
theorem ag_22 : AggIs Try.prog 22 false := by unfold AggIs; kernel_rfl
theorem z_22 : (Try.prog.info? 22).map (·.zero) = some (some (.slice none 0 0)) := by kernel_rfl
theorem sz_22 : (Try.prog.info? 22).map (·.size) = some 1 := by kernel_rfl
theorem inf_84 : (Try.prog.info? 84).map (fun i => (i.size, i.bytes, i.zero)) = some (kT_84.sz, 72, some (.agg #[.int .i64 0, .int .i64 0, .int .i64 0, .slice none 0 0, .slice none 0 0])) := by kernel_rfl
abbrev kSl_5 : Kd (List UInt8) := kslice 5 1 kbyte
theorem u_86 : Try.prog.underlying 86 = some (.slice 5) := by kernel_rfl
theorem ag_86 : AggIs Try.prog 86 false := by unfold AggIs; kernel_rfl
theorem z_86 : (Try.prog.info? 86).map (·.zero) = some (some (.slice none 0 0)) := by kernel_rfl
theorem sz_86 : (Try.prog.info? 86).map (·.size) = some 1 := by kernel_rfl
theorem inf_5 : (Try.prog.info? 5).map (fun i => (i.size, i.bytes, i.zero)) = some (kbyte.sz, 1, some (.int .u8 0)) := by kernel_rfl
abbrev kSl_86 : Kd (List (List UInt8)) := kslice 86 24 kSl_5
theorem u_23 : Try.prog.underlying 23 = some (.slice 86) := by kernel_rfl
theorem ag_23 : AggIs Try.prog 23 false := by unfold AggIs; kernel_rfl
theorem z_23 : (Try.prog.info? 23).map (·.zero) = some (some (.slice none 0 0)) := by kernel_rfl
theorem sz_23 : (Try.prog.info? 23).map (·.size) = some 1 := by kernel_rfl
theorem inf_86 : (Try.prog.info? 86).map (fun i => (i.size, i.bytes, i.zero)) = some (kSl_5.sz, 24, some (.slice none 0 0)) := by kernel_rfl
def kT_25 : Kd DFs := kiso (kpair kSl_84 kSl_86) (fun x => (x.inodes, x.data))
theorem sz_25 : (Try.prog.info? 25).map (·.size) = some 2 := by kernel_rfl
theorem z_25 : (Try.prog.info? 25).map (·.zero) = some (some (.agg #[.slice none 0 0, .slice none 0 0])) := by kernel_rfl
theorem ag_25 : AggIs Try.prog 25 true := by unfold AggIs; kernel_rfl
theorem bl_25 : BuildOk Try.prog 25 (.agg #[.slice none 0 0, .slice none 0 0]) #[(0, 1), (1, 1)] := ⟨by kernel_rfl, by kernel_rfl, fun w => by kernel_rfl⟩
theorem fa_25_0 (ad : Addr) (w : World) : (Instr.fieldAt 25 (.pointer (some ad)) 0).run Try.prog w = .ok (.pointer (some (ad.add 0))) w := by kernel_rfl
theorem fa_25_1 (ad : Addr) (w : World) : (Instr.fieldAt 25 (.pointer (some ad)) 1).run Try.prog w = .ok (.pointer (some (ad.add 1))) w := by kernel_rfl
theorem kT_25_ro {w : World} {F : Bs} {x : DFs} {cs : List Value} (h : kT_25.ro w F x cs) : ∃ v0 v1, cs = [v0, v1] ∧ kSl_84.ro w F x.inodes [v0] ∧ kSl_86.ro w F x.data [v1] := by
  obtain ⟨_, _, rfl, h0, h1⟩ := h
  obtain ⟨v0, rfl⟩ := sl_one h0
  obtain ⟨v1, rfl⟩ := sl_one h1
  exact ⟨v0, v1, rfl, h0, h1⟩
theorem kT_25_mk {w : World} {F : Bs} (x : DFs) {v0 : Value} {v1 : Value} (h0 : kSl_84.ro w F x.inodes [v0]) (h1 : kSl_86.ro w F x.data [v1]) : kT_25.ro w F x [v0, v1] :=
  ⟨_, _, rfl, h0, h1⟩
theorem kT_25_own {w : World} {S : Bs} {x : DFs} {cs : List Value} (h : kT_25.own w S x cs) : ∃ v0 v1, cs = [v0, v1] ∧ Star [ownA kSl_84 x.inodes [v0], ownA kSl_86 x.data [v1]] w S := by
  obtain ⟨_, _, rfl, a0⟩ := h
  obtain ⟨p0, q0, b0, c0, i0, j0, k0⟩ := star2 a0
  obtain ⟨v0, rfl⟩ := osl_one b0
  have g1 := Star.one (c := ownA kSl_84 x.inodes [v0]) b0
  obtain ⟨v1, rfl⟩ := osl_one c0
  have g2 := Star.one (c := ownA kSl_86 x.data [v1]) c0
  have g3 := g1.app g2 i0 j0 k0
  exact ⟨v0, v1, rfl, g3⟩
theorem kT_25_op {x : DFs} {cs : List Value} (w : World) (S : Bs) (h : Star [ownA kT_25 x cs] w S) : ∃ g : Value × Value, cs = [g.1, g.2] ∧ Star [ownA kSl_84 x.inodes [g.1], ownA kSl_86 x.data [g.2]] w S := by
  obtain ⟨v0, v1, h1, h2⟩ := kT_25_own (show kT_25.own w S x cs from h.head (c := ownA kT_25 x cs))
  exact ⟨(v0, v1), h1, h2⟩
theorem kT_25_omk {w : World} {S : Bs} (x : DFs) {v0 : Value} {v1 : Value} (h : Star [ownA kSl_84 x.inodes [v0], ownA kSl_86 x.data [v1]] w S) : kT_25.own w S x [v0, v1] := by
  have m1 : Mk kSl_84 x.inodes [v0] [ownA kSl_84 x.inodes [v0]] := mk_leaf
  have m2 : Mk kSl_86 x.data [v1] [ownA kSl_86 x.data [v1]] := mk_leaf
  have m3 : Mk (kpair kSl_84 kSl_86) (x.inodes, x.data) ([v0] ++ [v1]) ([ownA kSl_84 x.inodes [v0]] ++ [ownA kSl_86 x.data [v1]]) := mk_pair m1 m2
  have m0 : Mk kT_25 x ([v0] ++ [v1]) ([ownA kSl_84 x.inodes [v0]] ++ [ownA kSl_86 x.data [v1]]) := m3
  exact m0 w S h
def RA_25 (x : DFs) (r : Value) (l : List Asn) : Prop := ∃ v0 v1, r = .agg #[v0, v1] ∧ l = [ownA kSl_84 x.inodes [v0], ownA kSl_86 x.data [v1]]
theorem zero_25 (w : World) (S : Bs) : kT_25.own w S (⟨[], []⟩ : DFs) [.slice none 0 0, .slice none 0 0] := kT_25_omk (⟨[], []⟩ : DFs) (⟨fun _ => False, fun _ => False, own_nil _ _ none, ⟨fun _ => False, fun _ => False, own_nil _ _ none, trivial, fun _ h => h.elim, fun _ h => h.elim, fun _ h => h.elim⟩, fun _ h => h.elim, fun _ h => h.elim, fun _ h => h.elim⟩)
def PA_25 (g e s : Nat) (post : List Value) (x : DFs) (r : Value) (l : List Asn) : Prop := ∃ v0 v1, r = .tuple #[] ∧ l = [rowA g e s 1 (v0 :: v1 :: post), ownA kSl_84 x.inodes [v0], ownA kSl_86 x.data [v1]]
def kT_69 : Kd DEnt := kiso (kpair kstr (kint .i64)) (fun x => (x.name, x.ino))
theorem sz_69 : (Try.prog.info? 69).map (·.size) = some 2 := by kernel_rfl
theorem z_69 : (Try.prog.info? 69).map (·.zero) = some (some (.agg #[.string ⟨#[]⟩, .int .i64 0])) := by kernel_rfl
theorem ag_69 : AggIs Try.prog 69 true := by unfold AggIs; kernel_rfl
theorem bl_69 : BuildOk Try.prog 69 (.agg #[.string ⟨#[]⟩, .int .i64 0]) #[(0, 1), (1, 1)] := ⟨by kernel_rfl, by kernel_rfl, fun w => by kernel_rfl⟩
theorem fa_69_0 (ad : Addr) (w : World) : (Instr.fieldAt 69 (.pointer (some ad)) 0).run Try.prog w = .ok (.pointer (some (ad.add 0))) w := by kernel_rfl
theorem fa_69_1 (ad : Addr) (w : World) : (Instr.fieldAt 69 (.pointer (some ad)) 1).run Try.prog w = .ok (.pointer (some (ad.add 1))) w := by kernel_rfl
theorem ent_gd_69 : Try.prog.eqGuardType Try.prog.depth 69 = false := by kernel_rfl
theorem ent_eq_69 (x y : DEnt) (w : World) : (Op.equalIn 10000 69 (.agg #[.string x.name, .int .i64 x.ino]) (.agg #[.string y.name, .int .i64 y.ino])).run Try.prog w = .ok (decide (x = y)) w := by
  rw [run_equalIn_struct w 9999 69 _ _ (by kernel_rfl) (by kernel_rfl)]
  rw [show (Try.prog.fieldsOf 69).toList = [(Try.prog.fieldsOf 69)[0]!, (Try.prog.fieldsOf 69)[1]!] by kernel_rfl]
  refine ((eqFs_cons (a := .string x.name) (b := .string y.name) (by kernel_rfl) (fun w => by kernel_rfl) (fun w => by kernel_rfl) (fun w => run_equalIn_string w 9998 _ x.name y.name (by kernel_rfl)) (eqFs_cons (a := .int .i64 x.ino) (b := .int .i64 y.ino) (by kernel_rfl) (fun w => by kernel_rfl) (fun w => by kernel_rfl) (fun w => run_equalIn_int w 9998 _ .i64 .i64 x.ino y.ino (by kernel_rfl)) eqFs_nil)) w).trans ?_
  congr 1; cases x; cases y; simp only [beq_str, beq_int, Bool.and_true, DEnt.mk.injEq, Bool.decide_and]
theorem kT_69_ro {w : World} {F : Bs} {x : DEnt} {cs : List Value} (h : kT_69.ro w F x cs) : cs = [.string x.name, .int .i64 x.ino] ∧ x.name.size ≤ 140737488351232 := by
  obtain ⟨_, _, rfl, ⟨rfl, s0⟩, ⟨rfl, -⟩⟩ := h
  exact ⟨rfl, s0⟩
theorem kT_69_mk {w : World} {F : Bs} (x : DEnt) (s0 : x.name.size ≤ 140737488351232) : kT_69.ro w F x [.string x.name, .int .i64 x.ino] :=
  ⟨_, _, rfl, ⟨rfl, s0⟩, ⟨rfl, trivial⟩⟩
theorem kT_69_own {w : World} {S : Bs} {x : DEnt} {cs : List Value} (h : kT_69.own w S x cs) : cs = [.string x.name, .int .i64 x.ino] ∧ Star [] w S ∧ x.name.size ≤ 140737488351232 := by
  obtain ⟨_, _, rfl, a0⟩ := h
  obtain ⟨p0, q0, b0, c0, i0, j0, k0⟩ := star2 a0
  obtain ⟨rfl, s0⟩ := b0
  obtain ⟨rfl, -⟩ := c0
  exact ⟨rfl, trivial, s0⟩
theorem kT_69_op {x : DEnt} {cs : List Value} (w : World) (S : Bs) (h : Star [ownA kT_69 x cs] w S) : ∃ g : Unit, (cs = [.string x.name, .int .i64 x.ino] ∧ x.name.size ≤ 140737488351232) ∧ Star [] w S := by
  obtain ⟨h1, h2, s0⟩ := kT_69_own (show kT_69.own w S x cs from h.head (c := ownA kT_69 x cs))
  exact ⟨(), ⟨h1, s0⟩, h2⟩
theorem kT_69_omk {w : World} {S : Bs} (x : DEnt) (h : Star [] w S) (s0 : x.name.size ≤ 140737488351232) : kT_69.own w S x [.string x.name, .int .i64 x.ino] := by
  have m1 : Mk kstr x.name [.string x.name] [] := (mk_str s0)
  have m2 : Mk (kint .i64) x.ino [.int .i64 x.ino] [] := mk_int
  have m3 : Mk (kpair kstr (kint .i64)) (x.name, x.ino) ([.string x.name] ++ [.int .i64 x.ino]) ([] ++ []) := mk_pair m1 m2
  have m0 : Mk kT_69 x ([.string x.name] ++ [.int .i64 x.ino]) ([] ++ []) := m3
  exact m0 w S h
def RA_69 (x : DEnt) (r : Value) (l : List Asn) : Prop := r = .agg #[.string x.name, .int .i64 x.ino] ∧ l = [] ∧ x.name.size ≤ 140737488351232
theorem zero_69 (w : World) (S : Bs) : kT_69.own w S (⟨⟨#[]⟩, 0⟩ : DEnt) [.string ⟨#[]⟩, .int .i64 0] := kT_69_omk (⟨⟨#[]⟩, 0⟩ : DEnt) (trivial) (by decide)
def PA_69 (g e s : Nat) (post : List Value) (x : DEnt) (r : Value) (l : List Asn) : Prop := r = .tuple #[] ∧ l = [rowA g e s 1 ((.string x.name) :: (.int .i64 x.ino) :: post)] ∧ x.name.size ≤ 140737488351232
abbrev kSl_69 : Kd (List DEnt) := kslice 69 24 kT_69
theorem u_58 : Try.prog.underlying 58 = some (.slice 69) := by kernel_rfl
theorem ag_58 : AggIs Try.prog 58 false := by unfold AggIs; kernel_rfl
theorem z_58 : (Try.prog.info? 58).map (·.zero) = some (some (.slice none 0 0)) := by kernel_rfl
theorem sz_58 : (Try.prog.info? 58).map (·.size) = some 1 := by kernel_rfl
theorem inf_69 : (Try.prog.info? 69).map (fun i => (i.size, i.bytes, i.zero)) = some (kT_69.sz, 24, some (.agg #[.string ⟨#[]⟩, .int .i64 0])) := by kernel_rfl
def kT_60 : Kd DInode := kiso (kpair (kint .i64) (kpair (kint .i64) (kpair (kint .i64) (kpair kSl_2 kSl_69)))) (fun x => (x.kind, x.links, x.size, x.blocks, x.ents))
theorem sz_60 : (Try.prog.info? 60).map (·.size) = some 5 := by kernel_rfl
theorem z_60 : (Try.prog.info? 60).map (·.zero) = some (some (.agg #[.int .i64 0, .int .i64 0, .int .i64 0, .slice none 0 0, .slice none 0 0])) := by kernel_rfl
theorem ag_60 : AggIs Try.prog 60 true := by unfold AggIs; kernel_rfl
theorem bl_60 : BuildOk Try.prog 60 (.agg #[.int .i64 0, .int .i64 0, .int .i64 0, .slice none 0 0, .slice none 0 0]) #[(0, 1), (1, 1), (2, 1), (3, 1), (4, 1)] := ⟨by kernel_rfl, by kernel_rfl, fun w => by kernel_rfl⟩
theorem fa_60_0 (ad : Addr) (w : World) : (Instr.fieldAt 60 (.pointer (some ad)) 0).run Try.prog w = .ok (.pointer (some (ad.add 0))) w := by kernel_rfl
theorem fa_60_1 (ad : Addr) (w : World) : (Instr.fieldAt 60 (.pointer (some ad)) 1).run Try.prog w = .ok (.pointer (some (ad.add 1))) w := by kernel_rfl
theorem fa_60_2 (ad : Addr) (w : World) : (Instr.fieldAt 60 (.pointer (some ad)) 2).run Try.prog w = .ok (.pointer (some (ad.add 2))) w := by kernel_rfl
theorem fa_60_3 (ad : Addr) (w : World) : (Instr.fieldAt 60 (.pointer (some ad)) 3).run Try.prog w = .ok (.pointer (some (ad.add 3))) w := by kernel_rfl
theorem fa_60_4 (ad : Addr) (w : World) : (Instr.fieldAt 60 (.pointer (some ad)) 4).run Try.prog w = .ok (.pointer (some (ad.add 4))) w := by kernel_rfl
theorem kT_60_ro {w : World} {F : Bs} {x : DInode} {cs : List Value} (h : kT_60.ro w F x cs) : ∃ v3 v4, cs = [.int .i64 x.kind, .int .i64 x.links, .int .i64 x.size, v3, v4] ∧ kSl_2.ro w F x.blocks [v3] ∧ kSl_69.ro w F x.ents [v4] := by
  obtain ⟨_, _, rfl, ⟨rfl, -⟩, ⟨_, _, rfl, ⟨rfl, -⟩, ⟨_, _, rfl, ⟨rfl, -⟩, ⟨_, _, rfl, h3, h4⟩⟩⟩⟩ := h
  obtain ⟨v3, rfl⟩ := sl_one h3
  obtain ⟨v4, rfl⟩ := sl_one h4
  exact ⟨v3, v4, rfl, h3, h4⟩
theorem kT_60_mk {w : World} {F : Bs} (x : DInode) {v3 : Value} {v4 : Value} (h3 : kSl_2.ro w F x.blocks [v3]) (h4 : kSl_69.ro w F x.ents [v4]) : kT_60.ro w F x [.int .i64 x.kind, .int .i64 x.links, .int .i64 x.size, v3, v4] :=
  ⟨_, _, rfl, ⟨rfl, trivial⟩, ⟨_, _, rfl, ⟨rfl, trivial⟩, ⟨_, _, rfl, ⟨rfl, trivial⟩, ⟨_, _, rfl, h3, h4⟩⟩⟩⟩
theorem kT_60_own {w : World} {S : Bs} {x : DInode} {cs : List Value} (h : kT_60.own w S x cs) : ∃ v3 v4, cs = [.int .i64 x.kind, .int .i64 x.links, .int .i64 x.size, v3, v4] ∧ Star [ownA kSl_2 x.blocks [v3], ownA kSl_69 x.ents [v4]] w S := by
  obtain ⟨_, _, rfl, a0⟩ := h
  obtain ⟨p0, q0, b0, c0, i0, j0, k0⟩ := star2 a0
  obtain ⟨rfl, -⟩ := b0
  obtain ⟨_, _, rfl, a1⟩ := c0
  obtain ⟨p1, q1, b1, c1, i1, j1, k1⟩ := star2 a1
  obtain ⟨rfl, -⟩ := b1
  obtain ⟨_, _, rfl, a2⟩ := c1
  obtain ⟨p2, q2, b2, c2, i2, j2, k2⟩ := star2 a2
  obtain ⟨rfl, -⟩ := b2
  obtain ⟨_, _, rfl, a3⟩ := c2
  obtain ⟨p3, q3, b3, c3, i3, j3, k3⟩ := star2 a3
  obtain ⟨v3, rfl⟩ := osl_one b3
  have g4 := Star.one (c := ownA kSl_2 x.blocks [v3]) b3
  obtain ⟨v4, rfl⟩ := osl_one c3
  have g5 := Star.one (c := ownA kSl_69 x.ents [v4]) c3
  have g6 := g4.app g5 i3 j3 k3
  have g7 := g6.up j2
  have g8 := g7.up j1
  have g9 := g8.up j0
  exact ⟨v3, v4, rfl, g9⟩
theorem kT_60_op {x : DInode} {cs : List Value} (w : World) (S : Bs) (h : Star [ownA kT_60 x cs] w S) : ∃ g : Value × Value, cs = [.int .i64 x.kind, .int .i64 x.links, .int .i64 x.size, g.1, g.2] ∧ Star [ownA kSl_2 x.blocks [g.1], ownA kSl_69 x.ents [g.2]] w S := by
  obtain ⟨v3, v4, h1, h2⟩ := kT_60_own (show kT_60.own w S x cs from h.head (c := ownA kT_60 x cs))
  exact ⟨(v3, v4), h1, h2⟩
theorem kT_60_omk {w : World} {S : Bs} (x : DInode) {v3 : Value} {v4 : Value} (h : Star [ownA kSl_2 x.blocks [v3], ownA kSl_69 x.ents [v4]] w S) : kT_60.own w S x [.int .i64 x.kind, .int .i64 x.links, .int .i64 x.size, v3, v4] := by
  have m1 : Mk (kint .i64) x.kind [.int .i64 x.kind] [] := mk_int
  have m2 : Mk (kint .i64) x.links [.int .i64 x.links] [] := mk_int
  have m3 : Mk (kint .i64) x.size [.int .i64 x.size] [] := mk_int
  have m4 : Mk kSl_2 x.blocks [v3] [ownA kSl_2 x.blocks [v3]] := mk_leaf
  have m5 : Mk kSl_69 x.ents [v4] [ownA kSl_69 x.ents [v4]] := mk_leaf
  have m6 : Mk (kpair kSl_2 kSl_69) (x.blocks, x.ents) ([v3] ++ [v4]) ([ownA kSl_2 x.blocks [v3]] ++ [ownA kSl_69 x.ents [v4]]) := mk_pair m4 m5
  have m7 : Mk (kpair (kint .i64) (kpair kSl_2 kSl_69)) (x.size, (x.blocks, x.ents)) ([.int .i64 x.size] ++ ([v3] ++ [v4])) ([] ++ ([ownA kSl_2 x.blocks [v3]] ++ [ownA kSl_69 x.ents [v4]])) := mk_pair m3 m6
  have m8 : Mk (kpair (kint .i64) (kpair (kint .i64) (kpair kSl_2 kSl_69))) (x.links, (x.size, (x.blocks, x.ents))) ([.int .i64 x.links] ++ ([.int .i64 x.size] ++ ([v3] ++ [v4]))) ([] ++ ([] ++ ([ownA kSl_2 x.blocks [v3]] ++ [ownA kSl_69 x.ents [v4]]))) := mk_pair m2 m7
  have m9 : Mk (kpair (kint .i64) (kpair (kint .i64) (kpair (kint .i64) (kpair kSl_2 kSl_69)))) (x.kind, (x.links, (x.size, (x.blocks, x.ents)))) ([.int .i64 x.kind] ++ ([.int .i64 x.links] ++ ([.int .i64 x.size] ++ ([v3] ++ [v4])))) ([] ++ ([] ++ ([] ++ ([ownA kSl_2 x.blocks [v3]] ++ [ownA kSl_69 x.ents [v4]])))) := mk_pair m1 m8
  have m0 : Mk kT_60 x ([.int .i64 x.kind] ++ ([.int .i64 x.links] ++ ([.int .i64 x.size] ++ ([v3] ++ [v4])))) ([] ++ ([] ++ ([] ++ ([ownA kSl_2 x.blocks [v3]] ++ [ownA kSl_69 x.ents [v4]])))) := m9
  exact m0 w S h
def RA_60 (x : DInode) (r : Value) (l : List Asn) : Prop := ∃ v3 v4, r = .agg #[.int .i64 x.kind, .int .i64 x.links, .int .i64 x.size, v3, v4] ∧ l = [ownA kSl_2 x.blocks [v3], ownA kSl_69 x.ents [v4]]
theorem zero_60 (w : World) (S : Bs) : kT_60.own w S (⟨0, 0, 0, [], []⟩ : DInode) [.int .i64 0, .int .i64 0, .int .i64 0, .slice none 0 0, .slice none 0 0] := kT_60_omk (⟨0, 0, 0, [], []⟩ : DInode) (⟨fun _ => False, fun _ => False, own_nil _ _ none, ⟨fun _ => False, fun _ => False, own_nil _ _ none, trivial, fun _ h => h.elim, fun _ h => h.elim, fun _ h => h.elim⟩, fun _ h => h.elim, fun _ h => h.elim, fun _ h => h.elim⟩)
def PA_60 (g e s : Nat) (post : List Value) (x : DInode) (r : Value) (l : List Asn) : Prop := ∃ v3 v4, r = .tuple #[] ∧ l = [rowA g e s 1 ((.int .i64 x.kind) :: (.int .i64 x.links) :: (.int .i64 x.size) :: v3 :: v4 :: post), ownA kSl_2 x.blocks [v3], ownA kSl_69 x.ents [v4]]
abbrev kSl_60 : Kd (List DInode) := kslice 60 72 kT_60
theorem u_28 : Try.prog.underlying 28 = some (.slice 60) := by kernel_rfl
theorem ag_28 : AggIs Try.prog 28 false := by unfold AggIs; kernel_rfl
theorem z_28 : (Try.prog.info? 28).map (·.zero) = some (some (.slice none 0 0)) := by kernel_rfl
theorem sz_28 : (Try.prog.info? 28).map (·.size) = some 1 := by kernel_rfl
theorem inf_60 : (Try.prog.info? 60).map (fun i => (i.size, i.bytes, i.zero)) = some (kT_60.sz, 72, some (.agg #[.int .i64 0, .int .i64 0, .int .i64 0, .slice none 0 0, .slice none 0 0])) := by kernel_rfl
def kT_30 : Kd DFs := kiso (kpair kSl_60 kSl_86) (fun x => (x.inodes, x.data))
theorem sz_30 : (Try.prog.info? 30).map (·.size) = some 2 := by kernel_rfl
theorem z_30 : (Try.prog.info? 30).map (·.zero) = some (some (.agg #[.slice none 0 0, .slice none 0 0])) := by kernel_rfl
theorem ag_30 : AggIs Try.prog 30 true := by unfold AggIs; kernel_rfl
theorem bl_30 : BuildOk Try.prog 30 (.agg #[.slice none 0 0, .slice none 0 0]) #[(0, 1), (1, 1)] := ⟨by kernel_rfl, by kernel_rfl, fun w => by kernel_rfl⟩
theorem fa_30_0 (ad : Addr) (w : World) : (Instr.fieldAt 30 (.pointer (some ad)) 0).run Try.prog w = .ok (.pointer (some (ad.add 0))) w := by kernel_rfl
theorem fa_30_1 (ad : Addr) (w : World) : (Instr.fieldAt 30 (.pointer (some ad)) 1).run Try.prog w = .ok (.pointer (some (ad.add 1))) w := by kernel_rfl
theorem kT_30_ro {w : World} {F : Bs} {x : DFs} {cs : List Value} (h : kT_30.ro w F x cs) : ∃ v0 v1, cs = [v0, v1] ∧ kSl_60.ro w F x.inodes [v0] ∧ kSl_86.ro w F x.data [v1] := by
  obtain ⟨_, _, rfl, h0, h1⟩ := h
  obtain ⟨v0, rfl⟩ := sl_one h0
  obtain ⟨v1, rfl⟩ := sl_one h1
  exact ⟨v0, v1, rfl, h0, h1⟩
theorem kT_30_mk {w : World} {F : Bs} (x : DFs) {v0 : Value} {v1 : Value} (h0 : kSl_60.ro w F x.inodes [v0]) (h1 : kSl_86.ro w F x.data [v1]) : kT_30.ro w F x [v0, v1] :=
  ⟨_, _, rfl, h0, h1⟩
theorem kT_30_own {w : World} {S : Bs} {x : DFs} {cs : List Value} (h : kT_30.own w S x cs) : ∃ v0 v1, cs = [v0, v1] ∧ Star [ownA kSl_60 x.inodes [v0], ownA kSl_86 x.data [v1]] w S := by
  obtain ⟨_, _, rfl, a0⟩ := h
  obtain ⟨p0, q0, b0, c0, i0, j0, k0⟩ := star2 a0
  obtain ⟨v0, rfl⟩ := osl_one b0
  have g1 := Star.one (c := ownA kSl_60 x.inodes [v0]) b0
  obtain ⟨v1, rfl⟩ := osl_one c0
  have g2 := Star.one (c := ownA kSl_86 x.data [v1]) c0
  have g3 := g1.app g2 i0 j0 k0
  exact ⟨v0, v1, rfl, g3⟩
theorem kT_30_op {x : DFs} {cs : List Value} (w : World) (S : Bs) (h : Star [ownA kT_30 x cs] w S) : ∃ g : Value × Value, cs = [g.1, g.2] ∧ Star [ownA kSl_60 x.inodes [g.1], ownA kSl_86 x.data [g.2]] w S := by
  obtain ⟨v0, v1, h1, h2⟩ := kT_30_own (show kT_30.own w S x cs from h.head (c := ownA kT_30 x cs))
  exact ⟨(v0, v1), h1, h2⟩
theorem kT_30_omk {w : World} {S : Bs} (x : DFs) {v0 : Value} {v1 : Value} (h : Star [ownA kSl_60 x.inodes [v0], ownA kSl_86 x.data [v1]] w S) : kT_30.own w S x [v0, v1] := by
  have m1 : Mk kSl_60 x.inodes [v0] [ownA kSl_60 x.inodes [v0]] := mk_leaf
  have m2 : Mk kSl_86 x.data [v1] [ownA kSl_86 x.data [v1]] := mk_leaf
  have m3 : Mk (kpair kSl_60 kSl_86) (x.inodes, x.data) ([v0] ++ [v1]) ([ownA kSl_60 x.inodes [v0]] ++ [ownA kSl_86 x.data [v1]]) := mk_pair m1 m2
  have m0 : Mk kT_30 x ([v0] ++ [v1]) ([ownA kSl_60 x.inodes [v0]] ++ [ownA kSl_86 x.data [v1]]) := m3
  exact m0 w S h
def RA_30 (x : DFs) (r : Value) (l : List Asn) : Prop := ∃ v0 v1, r = .agg #[v0, v1] ∧ l = [ownA kSl_60 x.inodes [v0], ownA kSl_86 x.data [v1]]
theorem zero_30 (w : World) (S : Bs) : kT_30.own w S (⟨[], []⟩ : DFs) [.slice none 0 0, .slice none 0 0] := kT_30_omk (⟨[], []⟩ : DFs) (⟨fun _ => False, fun _ => False, own_nil _ _ none, ⟨fun _ => False, fun _ => False, own_nil _ _ none, trivial, fun _ h => h.elim, fun _ h => h.elim, fun _ h => h.elim⟩, fun _ h => h.elim, fun _ h => h.elim, fun _ h => h.elim⟩)
def PA_30 (g e s : Nat) (post : List Value) (x : DFs) (r : Value) (l : List Asn) : Prop := ∃ v0 v1, r = .tuple #[] ∧ l = [rowA g e s 1 (v0 :: v1 :: post), ownA kSl_60 x.inodes [v0], ownA kSl_86 x.data [v1]]
def kT_35 : Kd RInt := kiso (kpair (kint .i64) (kint .i64)) (fun x => (x.code, x.val))
theorem sz_35 : (Try.prog.info? 35).map (·.size) = some 2 := by kernel_rfl
theorem z_35 : (Try.prog.info? 35).map (·.zero) = some (some (.agg #[.int .i64 0, .int .i64 0])) := by kernel_rfl
theorem ag_35 : AggIs Try.prog 35 true := by unfold AggIs; kernel_rfl
theorem bl_35 : BuildOk Try.prog 35 (.agg #[.int .i64 0, .int .i64 0]) #[(0, 1), (1, 1)] := ⟨by kernel_rfl, by kernel_rfl, fun w => by kernel_rfl⟩
theorem fa_35_0 (ad : Addr) (w : World) : (Instr.fieldAt 35 (.pointer (some ad)) 0).run Try.prog w = .ok (.pointer (some (ad.add 0))) w := by kernel_rfl
theorem fa_35_1 (ad : Addr) (w : World) : (Instr.fieldAt 35 (.pointer (some ad)) 1).run Try.prog w = .ok (.pointer (some (ad.add 1))) w := by kernel_rfl
theorem ent_gd_35 : Try.prog.eqGuardType Try.prog.depth 35 = false := by kernel_rfl
theorem ent_eq_35 (x y : RInt) (w : World) : (Op.equalIn 10000 35 (.agg #[.int .i64 x.code, .int .i64 x.val]) (.agg #[.int .i64 y.code, .int .i64 y.val])).run Try.prog w = .ok (decide (x = y)) w := by
  rw [run_equalIn_struct w 9999 35 _ _ (by kernel_rfl) (by kernel_rfl)]
  rw [show (Try.prog.fieldsOf 35).toList = [(Try.prog.fieldsOf 35)[0]!, (Try.prog.fieldsOf 35)[1]!] by kernel_rfl]
  refine ((eqFs_cons (a := .int .i64 x.code) (b := .int .i64 y.code) (by kernel_rfl) (fun w => by kernel_rfl) (fun w => by kernel_rfl) (fun w => run_equalIn_int w 9998 _ .i64 .i64 x.code y.code (by kernel_rfl)) (eqFs_cons (a := .int .i64 x.val) (b := .int .i64 y.val) (by kernel_rfl) (fun w => by kernel_rfl) (fun w => by kernel_rfl) (fun w => run_equalIn_int w 9998 _ .i64 .i64 x.val y.val (by kernel_rfl)) eqFs_nil)) w).trans ?_
  congr 1; cases x; cases y; simp only [beq_str, beq_int, Bool.and_true, RInt.mk.injEq, Bool.decide_and]
theorem kT_35_ro {w : World} {F : Bs} {x : RInt} {cs : List Value} (h : kT_35.ro w F x cs) : cs = [.int .i64 x.code, .int .i64 x.val] := by
  obtain ⟨_, _, rfl, ⟨rfl, -⟩, ⟨rfl, -⟩⟩ := h
  exact rfl
theorem kT_35_mk {w : World} {F : Bs} (x : RInt) : kT_35.ro w F x [.int .i64 x.code, .int .i64 x.val] :=
  ⟨_, _, rfl, ⟨rfl, trivial⟩, ⟨rfl, trivial⟩⟩
theorem kT_35_own {w : World} {S : Bs} {x : RInt} {cs : List Value} (h : kT_35.own w S x cs) : cs = [.int .i64 x.code, .int .i64 x.val] ∧ Star [] w S := by
  obtain ⟨_, _, rfl, a0⟩ := h
  obtain ⟨p0, q0, b0, c0, i0, j0, k0⟩ := star2 a0
  obtain ⟨rfl, -⟩ := b0
  obtain ⟨rfl, -⟩ := c0
  exact ⟨rfl, trivial⟩
theorem kT_35_op {x : RInt} {cs : List Value} (w : World) (S : Bs) (h : Star [ownA kT_35 x cs] w S) : ∃ g : Unit, cs = [.int .i64 x.code, .int .i64 x.val] ∧ Star [] w S := by
  obtain ⟨h1, h2⟩ := kT_35_own (show kT_35.own w S x cs from h.head (c := ownA kT_35 x cs))
  exact ⟨(), h1, h2⟩
theorem kT_35_omk {w : World} {S : Bs} (x : RInt) (h : Star [] w S) : kT_35.own w S x [.int .i64 x.code, .int .i64 x.val] := by
  have m1 : Mk (kint .i64) x.code [.int .i64 x.code] [] := mk_int
  have m2 : Mk (kint .i64) x.val [.int .i64 x.val] [] := mk_int
  have m3 : Mk (kpair (kint .i64) (kint .i64)) (x.code, x.val) ([.int .i64 x.code] ++ [.int .i64 x.val]) ([] ++ []) := mk_pair m1 m2
  have m0 : Mk kT_35 x ([.int .i64 x.code] ++ [.int .i64 x.val]) ([] ++ []) := m3
  exact m0 w S h
def RA_35 (x : RInt) (r : Value) (l : List Asn) : Prop := r = .agg #[.int .i64 x.code, .int .i64 x.val] ∧ l = []
theorem zero_35 (w : World) (S : Bs) : kT_35.own w S (⟨0, 0⟩ : RInt) [.int .i64 0, .int .i64 0] := kT_35_omk (⟨0, 0⟩ : RInt) (trivial)
def PA_35 (g e s : Nat) (post : List Value) (x : RInt) (r : Value) (l : List Asn) : Prop := r = .tuple #[] ∧ l = [rowA g e s 1 ((.int .i64 x.code) :: (.int .i64 x.val) :: post)]
def kT_41 : Kd RInts := kiso (kpair (kint .i64) kSl_2) (fun x => (x.code, x.list))
theorem sz_41 : (Try.prog.info? 41).map (·.size) = some 2 := by kernel_rfl
theorem z_41 : (Try.prog.info? 41).map (·.zero) = some (some (.agg #[.int .i64 0, .slice none 0 0])) := by kernel_rfl
theorem ag_41 : AggIs Try.prog 41 true := by unfold AggIs; kernel_rfl
theorem bl_41 : BuildOk Try.prog 41 (.agg #[.int .i64 0, .slice none 0 0]) #[(0, 1), (1, 1)] := ⟨by kernel_rfl, by kernel_rfl, fun w => by kernel_rfl⟩
theorem fa_41_0 (ad : Addr) (w : World) : (Instr.fieldAt 41 (.pointer (some ad)) 0).run Try.prog w = .ok (.pointer (some (ad.add 0))) w := by kernel_rfl
theorem fa_41_1 (ad : Addr) (w : World) : (Instr.fieldAt 41 (.pointer (some ad)) 1).run Try.prog w = .ok (.pointer (some (ad.add 1))) w := by kernel_rfl
theorem kT_41_ro {w : World} {F : Bs} {x : RInts} {cs : List Value} (h : kT_41.ro w F x cs) : ∃ v1, cs = [.int .i64 x.code, v1] ∧ kSl_2.ro w F x.list [v1] := by
  obtain ⟨_, _, rfl, ⟨rfl, -⟩, h1⟩ := h
  obtain ⟨v1, rfl⟩ := sl_one h1
  exact ⟨v1, rfl, h1⟩
theorem kT_41_mk {w : World} {F : Bs} (x : RInts) {v1 : Value} (h1 : kSl_2.ro w F x.list [v1]) : kT_41.ro w F x [.int .i64 x.code, v1] :=
  ⟨_, _, rfl, ⟨rfl, trivial⟩, h1⟩
theorem kT_41_own {w : World} {S : Bs} {x : RInts} {cs : List Value} (h : kT_41.own w S x cs) : ∃ v1, cs = [.int .i64 x.code, v1] ∧ Star [ownA kSl_2 x.list [v1]] w S := by
  obtain ⟨_, _, rfl, a0⟩ := h
  obtain ⟨p0, q0, b0, c0, i0, j0, k0⟩ := star2 a0
  obtain ⟨rfl, -⟩ := b0
  obtain ⟨v1, rfl⟩ := osl_one c0
  have g1 := Star.one (c := ownA kSl_2 x.list [v1]) c0
  have g2 := g1.up j0
  exact ⟨v1, rfl, g2⟩
theorem kT_41_op {x : RInts} {cs : List Value} (w : World) (S : Bs) (h : Star [ownA kT_41 x cs] w S) : ∃ g : Value, cs = [.int .i64 x.code, g] ∧ Star [ownA kSl_2 x.list [g]] w S := by
  obtain ⟨v1, h1, h2⟩ := kT_41_own (show kT_41.own w S x cs from h.head (c := ownA kT_41 x cs))
  exact ⟨(v1), h1, h2⟩
theorem kT_41_omk {w : World} {S : Bs} (x : RInts) {v1 : Value} (h : Star [ownA kSl_2 x.list [v1]] w S) : kT_41.own w S x [.int .i64 x.code, v1] := by
  have m1 : Mk (kint .i64) x.code [.int .i64 x.code] [] := mk_int
  have m2 : Mk kSl_2 x.list [v1] [ownA kSl_2 x.list [v1]] := mk_leaf
  have m3 : Mk (kpair (kint .i64) kSl_2) (x.code, x.list) ([.int .i64 x.code] ++ [v1]) ([] ++ [ownA kSl_2 x.list [v1]]) := mk_pair m1 m2
  have m0 : Mk kT_41 x ([.int .i64 x.code] ++ [v1]) ([] ++ [ownA kSl_2 x.list [v1]]) := m3
  exact m0 w S h
def RA_41 (x : RInts) (r : Value) (l : List Asn) : Prop := ∃ v1, r = .agg #[.int .i64 x.code, v1] ∧ l = [ownA kSl_2 x.list [v1]]
theorem zero_41 (w : World) (S : Bs) : kT_41.own w S (⟨0, []⟩ : RInts) [.int .i64 0, .slice none 0 0] := kT_41_omk (⟨0, []⟩ : RInts) (⟨fun _ => False, fun _ => False, own_nil _ _ none, trivial, fun _ h => h.elim, fun _ h => h.elim, fun _ h => h.elim⟩)
def PA_41 (g e s : Nat) (post : List Value) (x : RInts) (r : Value) (l : List Asn) : Prop := ∃ v1, r = .tuple #[] ∧ l = [rowA g e s 1 ((.int .i64 x.code) :: v1 :: post), ownA kSl_2 x.list [v1]]
abbrev kSl_9 : Kd (List ByteArray) := kslice 9 16 kstr
theorem u_47 : Try.prog.underlying 47 = some (.slice 9) := by kernel_rfl
theorem ag_47 : AggIs Try.prog 47 false := by unfold AggIs; kernel_rfl
theorem z_47 : (Try.prog.info? 47).map (·.zero) = some (some (.slice none 0 0)) := by kernel_rfl
theorem sz_47 : (Try.prog.info? 47).map (·.size) = some 1 := by kernel_rfl
theorem inf_9 : (Try.prog.info? 9).map (fun i => (i.size, i.bytes, i.zero)) = some (kstr.sz, 16, some (.string ⟨#[]⟩)) := by kernel_rfl
def kT_49 : Kd RNames := kiso (kpair (kint .i64) kSl_9) (fun x => (x.code, x.names))
theorem sz_49 : (Try.prog.info? 49).map (·.size) = some 2 := by kernel_rfl
theorem z_49 : (Try.prog.info? 49).map (·.zero) = some (some (.agg #[.int .i64 0, .slice none 0 0])) := by kernel_rfl
theorem ag_49 : AggIs Try.prog 49 true := by unfold AggIs; kernel_rfl
theorem bl_49 : BuildOk Try.prog 49 (.agg #[.int .i64 0, .slice none 0 0]) #[(0, 1), (1, 1)] := ⟨by kernel_rfl, by kernel_rfl, fun w => by kernel_rfl⟩
theorem fa_49_0 (ad : Addr) (w : World) : (Instr.fieldAt 49 (.pointer (some ad)) 0).run Try.prog w = .ok (.pointer (some (ad.add 0))) w := by kernel_rfl
theorem fa_49_1 (ad : Addr) (w : World) : (Instr.fieldAt 49 (.pointer (some ad)) 1).run Try.prog w = .ok (.pointer (some (ad.add 1))) w := by kernel_rfl
theorem kT_49_ro {w : World} {F : Bs} {x : RNames} {cs : List Value} (h : kT_49.ro w F x cs) : ∃ v1, cs = [.int .i64 x.code, v1] ∧ kSl_9.ro w F x.names [v1] := by
  obtain ⟨_, _, rfl, ⟨rfl, -⟩, h1⟩ := h
  obtain ⟨v1, rfl⟩ := sl_one h1
  exact ⟨v1, rfl, h1⟩
theorem kT_49_mk {w : World} {F : Bs} (x : RNames) {v1 : Value} (h1 : kSl_9.ro w F x.names [v1]) : kT_49.ro w F x [.int .i64 x.code, v1] :=
  ⟨_, _, rfl, ⟨rfl, trivial⟩, h1⟩
theorem kT_49_own {w : World} {S : Bs} {x : RNames} {cs : List Value} (h : kT_49.own w S x cs) : ∃ v1, cs = [.int .i64 x.code, v1] ∧ Star [ownA kSl_9 x.names [v1]] w S := by
  obtain ⟨_, _, rfl, a0⟩ := h
  obtain ⟨p0, q0, b0, c0, i0, j0, k0⟩ := star2 a0
  obtain ⟨rfl, -⟩ := b0
  obtain ⟨v1, rfl⟩ := osl_one c0
  have g1 := Star.one (c := ownA kSl_9 x.names [v1]) c0
  have g2 := g1.up j0
  exact ⟨v1, rfl, g2⟩
theorem kT_49_op {x : RNames} {cs : List Value} (w : World) (S : Bs) (h : Star [ownA kT_49 x cs] w S) : ∃ g : Value, cs = [.int .i64 x.code, g] ∧ Star [ownA kSl_9 x.names [g]] w S := by
  obtain ⟨v1, h1, h2⟩ := kT_49_own (show kT_49.own w S x cs from h.head (c := ownA kT_49 x cs))
  exact ⟨(v1), h1, h2⟩
theorem kT_49_omk {w : World} {S : Bs} (x : RNames) {v1 : Value} (h : Star [ownA kSl_9 x.names [v1]] w S) : kT_49.own w S x [.int .i64 x.code, v1] := by
  have m1 : Mk (kint .i64) x.code [.int .i64 x.code] [] := mk_int
  have m2 : Mk kSl_9 x.names [v1] [ownA kSl_9 x.names [v1]] := mk_leaf
  have m3 : Mk (kpair (kint .i64) kSl_9) (x.code, x.names) ([.int .i64 x.code] ++ [v1]) ([] ++ [ownA kSl_9 x.names [v1]]) := mk_pair m1 m2
  have m0 : Mk kT_49 x ([.int .i64 x.code] ++ [v1]) ([] ++ [ownA kSl_9 x.names [v1]]) := m3
  exact m0 w S h
def RA_49 (x : RNames) (r : Value) (l : List Asn) : Prop := ∃ v1, r = .agg #[.int .i64 x.code, v1] ∧ l = [ownA kSl_9 x.names [v1]]
theorem zero_49 (w : World) (S : Bs) : kT_49.own w S (⟨0, []⟩ : RNames) [.int .i64 0, .slice none 0 0] := kT_49_omk (⟨0, []⟩ : RNames) (⟨fun _ => False, fun _ => False, own_nil _ _ none, trivial, fun _ h => h.elim, fun _ h => h.elim, fun _ h => h.elim⟩)
def PA_49 (g e s : Nat) (post : List Value) (x : RNames) (r : Value) (l : List Asn) : Prop := ∃ v1, r = .tuple #[] ∧ l = [rowA g e s 1 ((.int .i64 x.code) :: v1 :: post), ownA kSl_9 x.names [v1]]
abbrev kSl_4 : Kd (List Bool) := kslice 4 1 kbool
theorem u_97 : Try.prog.underlying 97 = some (.slice 4) := by kernel_rfl
theorem ag_97 : AggIs Try.prog 97 false := by unfold AggIs; kernel_rfl
theorem z_97 : (Try.prog.info? 97).map (·.zero) = some (some (.slice none 0 0)) := by kernel_rfl
theorem sz_97 : (Try.prog.info? 97).map (·.size) = some 1 := by kernel_rfl
theorem inf_4 : (Try.prog.info? 4).map (fun i => (i.size, i.bytes, i.zero)) = some (kbool.sz, 1, some (.bool false)) := by kernel_rfl
theorem u_124 : Try.prog.underlying 124 = some (.int .u64) := by kernel_rfl
theorem sz_124 : (Try.prog.info? 124).map (·.size) = some 1 := by kernel_rfl
theorem z_124 : (Try.prog.info? 124).map (·.zero) = some (some (.int .u64 0)) := by kernel_rfl
theorem ag_124 : AggIs Try.prog 124 false := by unfold AggIs; kernel_rfl
theorem u_129 : Try.prog.underlying 129 = some (.int .i64) := by kernel_rfl
theorem sz_129 : (Try.prog.info? 129).map (·.size) = some 1 := by kernel_rfl
theorem z_129 : (Try.prog.info? 129).map (·.zero) = some (some (.int .i64 0)) := by kernel_rfl
theorem ag_129 : AggIs Try.prog 129 false := by unfold AggIs; kernel_rfl
theorem u_138 : Try.prog.underlying 138 = some (.int .u32) := by kernel_rfl
theorem sz_138 : (Try.prog.info? 138).map (·.size) = some 1 := by kernel_rfl
theorem z_138 : (Try.prog.info? 138).map (·.zero) = some (some (.int .u32 0)) := by kernel_rfl
theorem ag_138 : AggIs Try.prog 138 false := by unfold AggIs; kernel_rfl
theorem u_140 : Try.prog.underlying 140 = some (.int .u64) := by kernel_rfl
theorem sz_140 : (Try.prog.info? 140).map (·.size) = some 1 := by kernel_rfl
theorem z_140 : (Try.prog.info? 140).map (·.zero) = some (some (.int .u64 0)) := by kernel_rfl
theorem ag_140 : AggIs Try.prog 140 false := by unfold AggIs; kernel_rfl
theorem u_143 : Try.prog.underlying 143 = some (.int .u64) := by kernel_rfl
theorem sz_143 : (Try.prog.info? 143).map (·.size) = some 1 := by kernel_rfl
theorem z_143 : (Try.prog.info? 143).map (·.zero) = some (some (.int .u64 0)) := by kernel_rfl
theorem ag_143 : AggIs Try.prog 143 false := by unfold AggIs; kernel_rfl
end Go.Proofs.Ytbcdcakcmdcafaa

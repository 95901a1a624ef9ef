/- What is proved: the kinds of this program's types, laid open and put together; facts on its types. No condition. -/
import Derived.Test.YticaddophhggoaaGreatDoorProg
import Derived.Test.YticaddophhggoaaGreatDoorBase0
import Derived.Test.YticaddophhggoaaGreatDoorBase1
namespace Go.Proofs.YticaddophhggoaaGreatDoor
open Go Go.RowKit
set_option maxRecDepth 100000
set_option linter.unusedVariables false
set_option linter.unusedSimpArgs false
theorem u_2 : Tryz.prog.underlying 2 = some (.int .i64) := by kernel_rfl
theorem sz_2 : (Tryz.prog.info? 2).map (·.size) = some 1 := by kernel_rfl
theorem z_2 : (Tryz.prog.info? 2).map (·.zero) = some (some (.int .i64 0)) := by kernel_rfl
theorem ag_2 : AggIs Tryz.prog 2 false := by unfold AggIs; kernel_rfl
theorem u_3 : Tryz.prog.underlying 3 = some (.int .i64) := by kernel_rfl
theorem sz_3 : (Tryz.prog.info? 3).map (·.size) = some 1 := by kernel_rfl
theorem z_3 : (Tryz.prog.info? 3).map (·.zero) = some (some (.int .i64 0)) := by kernel_rfl
theorem ag_3 : AggIs Tryz.prog 3 false := by unfold AggIs; kernel_rfl
theorem u_4 : Tryz.prog.underlying 4 = some .bool := by kernel_rfl
theorem sz_4 : (Tryz.prog.info? 4).map (·.size) = some 1 := by kernel_rfl
theorem z_4 : (Tryz.prog.info? 4).map (·.zero) = some (some (.bool false)) := by kernel_rfl
theorem ag_4 : AggIs Tryz.prog 4 false := by unfold AggIs; kernel_rfl
theorem u_5 : Tryz.prog.underlying 5 = some (.int .u8) := by kernel_rfl
theorem sz_5 : (Tryz.prog.info? 5).map (·.size) = some 1 := by kernel_rfl
theorem z_5 : (Tryz.prog.info? 5).map (·.zero) = some (some (.int .u8 0)) := by kernel_rfl
theorem ag_5 : AggIs Tryz.prog 5 false := by unfold AggIs; kernel_rfl
theorem u_9 : Tryz.prog.underlying 9 = some .string := by kernel_rfl
theorem sz_9 : (Tryz.prog.info? 9).map (·.size) = some 1 := by kernel_rfl
theorem z_9 : (Tryz.prog.info? 9).map (·.zero) = some (some (.string ⟨#[]⟩)) := by kernel_rfl
theorem ag_9 : AggIs Tryz.prog 9 false := by unfold AggIs; kernel_rfl
theorem u_21 : Tryz.prog.underlying 21 = some (.int .i32) := by kernel_rfl
theorem sz_21 : (Tryz.prog.info? 21).map (·.size) = some 1 := by kernel_rfl
theorem z_21 : (Tryz.prog.info? 21).map (·.zero) = some (some (.int .i32 0)) := by kernel_rfl
theorem ag_21 : AggIs Tryz.prog 21 false := by unfold AggIs; kernel_rfl
abbrev kSl_2 : Kd (List Int) := kslice 2 8 (kint .i64)
theorem u_52 : Tryz.prog.underlying 52 = some (.slice 2) := by kernel_rfl
theorem ag_52 : AggIs Tryz.prog 52 false := by unfold AggIs; kernel_rfl
theorem z_52 : (Tryz.prog.info? 52).map (·.zero) = some (some (.slice none 0 0)) := by kernel_rfl
theorem sz_52 : (Tryz.prog.info? 52).map (·.size) = some 1 := by kernel_rfl
theorem inf_2 : (Tryz.prog.info? 2).map (fun i => (i.size, i.bytes, i.zero)) = some ((kint .i64).sz, 8, some (.int .i64 0)) := by kernel_rfl
def kT_153 : Kd DEnt := kiso (kpair kstr (kint .i64)) (fun x => (x.name, x.ino))
theorem sz_153 : (Tryz.prog.info? 153).map (·.size) = some 2 := by kernel_rfl
theorem z_153 : (Tryz.prog.info? 153).map (·.zero) = some (some (.agg #[.string ⟨#[]⟩, .int .i64 0])) := by kernel_rfl
theorem ag_153 : AggIs Tryz.prog 153 true := by unfold AggIs; kernel_rfl
theorem bl_153 : BuildOk Tryz.prog 153 (.agg #[.string ⟨#[]⟩, .int .i64 0]) #[(0, 1), (1, 1)] := ⟨by kernel_rfl, by kernel_rfl, fun w => by kernel_rfl⟩
theorem fa_153_0 (ad : Addr) (w : World) : (Instr.fieldAt 153 (.pointer (some ad)) 0).run Tryz.prog w = .ok (.pointer (some (ad.add 0))) w := by kernel_rfl
theorem fa_153_1 (ad : Addr) (w : World) : (Instr.fieldAt 153 (.pointer (some ad)) 1).run Tryz.prog w = .ok (.pointer (some (ad.add 1))) w := by kernel_rfl
theorem ent_gd_153 : Tryz.prog.eqGuardType Tryz.prog.depth 153 = false := by kernel_rfl
theorem ent_eq_153 (x y : DEnt) (w : World) : (Op.equalIn 10000 153 (.agg #[.string x.name, .int .i64 x.ino]) (.agg #[.string y.name, .int .i64 y.ino])).run Tryz.prog w = .ok (decide (x = y)) w := by
  rw [run_equalIn_struct w 9999 153 _ _ (by kernel_rfl) (by kernel_rfl)]
  rw [show (Tryz.prog.fieldsOf 153).toList = [(Tryz.prog.fieldsOf 153)[0]!, (Tryz.prog.fieldsOf 153)[1]!] by kernel_rfl]
  refine ((eqFs_cons (a := .string x.name) (b := .string y.name) (by kernel_rfl) (fun w => by kernel_rfl) (fun w => by kernel_rfl) (fun w => run_equalIn_string w 9998 _ x.name y.name (by kernel_rfl)) (eqFs_cons (a := .int .i64 x.ino) (b := .int .i64 y.ino) (by kernel_rfl) (fun w => by kernel_rfl) (fun w => by kernel_rfl) (fun w => run_equalIn_int w 9998 _ .i64 .i64 x.ino y.ino (by kernel_rfl)) eqFs_nil)) w).trans ?_
  congr 1; cases x; cases y; simp only [beq_str, beq_int, Bool.and_true, DEnt.mk.injEq, Bool.decide_and]
theorem kT_153_ro {w : World} {F : Bs} {x : DEnt} {cs : List Value} (h : kT_153.ro w F x cs) : cs = [.string x.name, .int .i64 x.ino] ∧ x.name.size ≤ 140737488351232 := by
  obtain ⟨_, _, rfl, ⟨rfl, s0⟩, ⟨rfl, -⟩⟩ := h
  exact ⟨rfl, s0⟩
theorem kT_153_mk {w : World} {F : Bs} (x : DEnt) (s0 : x.name.size ≤ 140737488351232) : kT_153.ro w F x [.string x.name, .int .i64 x.ino] :=
  ⟨_, _, rfl, ⟨rfl, s0⟩, ⟨rfl, trivial⟩⟩
theorem kT_153_own {w : World} {S : Bs} {x : DEnt} {cs : List Value} (h : kT_153.own w S x cs) : cs = [.string x.name, .int .i64 x.ino] ∧ Star [] w S ∧ x.name.size ≤ 140737488351232 := by
  obtain ⟨_, _, rfl, a0⟩ := h
  obtain ⟨p0, q0, b0, c0, i0, j0, k0⟩ := star2 a0
  obtain ⟨rfl, s0⟩ := b0
  obtain ⟨rfl, -⟩ := c0
  exact ⟨rfl, trivial, s0⟩
theorem kT_153_op {x : DEnt} {cs : List Value} (w : World) (S : Bs) (h : Star [ownA kT_153 x cs] w S) : ∃ g : Unit, (cs = [.string x.name, .int .i64 x.ino] ∧ x.name.size ≤ 140737488351232) ∧ Star [] w S := by
  obtain ⟨h1, h2, s0⟩ := kT_153_own (show kT_153.own w S x cs from h.head (c := ownA kT_153 x cs))
  exact ⟨(), ⟨h1, s0⟩, h2⟩
theorem kT_153_omk {w : World} {S : Bs} (x : DEnt) (h : Star [] w S) (s0 : x.name.size ≤ 140737488351232) : kT_153.own w S x [.string x.name, .int .i64 x.ino] := by
  have m1 : Mk kstr x.name [.string x.name] [] := (mk_str s0)
  have m2 : Mk (kint .i64) x.ino [.int .i64 x.ino] [] := mk_int
  have m3 : Mk (kpair kstr (kint .i64)) (x.name, x.ino) ([.string x.name] ++ [.int .i64 x.ino]) ([] ++ []) := mk_pair m1 m2
  have m0 : Mk kT_153 x ([.string x.name] ++ [.int .i64 x.ino]) ([] ++ []) := m3
  exact m0 w S h
def RA_153 (x : DEnt) (r : Value) (l : List Asn) : Prop := r = .agg #[.string x.name, .int .i64 x.ino] ∧ l = [] ∧ x.name.size ≤ 140737488351232
theorem zero_153 (w : World) (S : Bs) : kT_153.own w S (⟨⟨#[]⟩, 0⟩ : DEnt) [.string ⟨#[]⟩, .int .i64 0] := kT_153_omk (⟨⟨#[]⟩, 0⟩ : DEnt) (trivial) (by decide)
def PA_153 (g e s : Nat) (post : List Value) (x : DEnt) (r : Value) (l : List Asn) : Prop := r = .tuple #[] ∧ l = [rowA g e s 1 ((.string x.name) :: (.int .i64 x.ino) :: post)] ∧ x.name.size ≤ 140737488351232
abbrev kSl_153 : Kd (List DEnt) := kslice 153 24 kT_153
theorem u_88 : Tryz.prog.underlying 88 = some (.slice 153) := by kernel_rfl
theorem ag_88 : AggIs Tryz.prog 88 false := by unfold AggIs; kernel_rfl
theorem z_88 : (Tryz.prog.info? 88).map (·.zero) = some (some (.slice none 0 0)) := by kernel_rfl
theorem sz_88 : (Tryz.prog.info? 88).map (·.size) = some 1 := by kernel_rfl
theorem inf_153 : (Tryz.prog.info? 153).map (fun i => (i.size, i.bytes, i.zero)) = some (kT_153.sz, 24, some (.agg #[.string ⟨#[]⟩, .int .i64 0])) := by kernel_rfl
def kT_90 : Kd DInode := kiso (kpair (kint .i64) (kpair (kint .i64) (kpair (kint .i64) (kpair kSl_2 kSl_153)))) (fun x => (x.kind, x.links, x.size, x.blocks, x.ents))
theorem sz_90 : (Tryz.prog.info? 90).map (·.size) = some 5 := by kernel_rfl
theorem z_90 : (Tryz.prog.info? 90).map (·.zero) = some (some (.agg #[.int .i64 0, .int .i64 0, .int .i64 0, .slice none 0 0, .slice none 0 0])) := by kernel_rfl
theorem ag_90 : AggIs Tryz.prog 90 true := by unfold AggIs; kernel_rfl
theorem bl_90 : BuildOk Tryz.prog 90 (.agg #[.int .i64 0, .int .i64 0, .int .i64 0, .slice none 0 0, .slice none 0 0]) #[(0, 1), (1, 1), (2, 1), (3, 1), (4, 1)] := ⟨by kernel_rfl, by kernel_rfl, fun w => by kernel_rfl⟩
theorem fa_90_0 (ad : Addr) (w : World) : (Instr.fieldAt 90 (.pointer (some ad)) 0).run Tryz.prog w = .ok (.pointer (some (ad.add 0))) w := by kernel_rfl
theorem fa_90_1 (ad : Addr) (w : World) : (Instr.fieldAt 90 (.pointer (some ad)) 1).run Tryz.prog w = .ok (.pointer (some (ad.add 1))) w := by kernel_rfl
theorem fa_90_2 (ad : Addr) (w : World) : (Instr.fieldAt 90 (.pointer (some ad)) 2).run Tryz.prog w = .ok (.pointer (some (ad.add 2))) w := by kernel_rfl
theorem fa_90_3 (ad : Addr) (w : World) : (Instr.fieldAt 90 (.pointer (some ad)) 3).run Tryz.prog w = .ok (.pointer (some (ad.add 3))) w := by kernel_rfl
theorem fa_90_4 (ad : Addr) (w : World) : (Instr.fieldAt 90 (.pointer (some ad)) 4).run Tryz.prog w = .ok (.pointer (some (ad.add 4))) w := by kernel_rfl
theorem kT_90_ro {w : World} {F : Bs} {x : DInode} {cs : List Value} (h : kT_90.ro w F x cs) : ∃ v3 v4, cs = [.int .i64 x.kind, .int .i64 x.links, .int .i64 x.size, v3, v4] ∧ kSl_2.ro w F x.blocks [v3] ∧ kSl_153.ro w F x.ents [v4] := by
  obtain ⟨_, _, rfl, ⟨rfl, -⟩, ⟨_, _, rfl, ⟨rfl, -⟩, ⟨_, _, rfl, ⟨rfl, -⟩, ⟨_, _, rfl, h3, h4⟩⟩⟩⟩ := h
  obtain ⟨v3, rfl⟩ := sl_one h3
  obtain ⟨v4, rfl⟩ := sl_one h4
  exact ⟨v3, v4, rfl, h3, h4⟩
theorem kT_90_mk {w : World} {F : Bs} (x : DInode) {v3 : Value} {v4 : Value} (h3 : kSl_2.ro w F x.blocks [v3]) (h4 : kSl_153.ro w F x.ents [v4]) : kT_90.ro w F x [.int .i64 x.kind, .int .i64 x.links, .int .i64 x.size, v3, v4] :=
  ⟨_, _, rfl, ⟨rfl, trivial⟩, ⟨_, _, rfl, ⟨rfl, trivial⟩, ⟨_, _, rfl, ⟨rfl, trivial⟩, ⟨_, _, rfl, h3, h4⟩⟩⟩⟩
theorem kT_90_own {w : World} {S : Bs} {x : DInode} {cs : List Value} (h : kT_90.own w S x cs) : ∃ v3 v4, cs = [.int .i64 x.kind, .int .i64 x.links, .int .i64 x.size, v3, v4] ∧ Star [ownA kSl_2 x.blocks [v3], ownA kSl_153 x.ents [v4]] w S := by
  obtain ⟨_, _, rfl, a0⟩ := h
  obtain ⟨p0, q0, b0, c0, i0, j0, k0⟩ := star2 a0
  obtain ⟨rfl, -⟩ := b0
  obtain ⟨_, _, rfl, a1⟩ := c0
  obtain ⟨p1, q1, b1, c1, i1, j1, k1⟩ := star2 a1
  obtain ⟨rfl, -⟩ := b1
  obtain ⟨_, _, rfl, a2⟩ := c1
  obtain ⟨p2, q2, b2, c2, i2, j2, k2⟩ := star2 a2
  obtain ⟨rfl, -⟩ := b2
  obtain ⟨_, _, rfl, a3⟩ := c2
  obtain ⟨p3, q3, b3, c3, i3, j3, k3⟩ := star2 a3
  obtain ⟨v3, rfl⟩ := osl_one b3
  have g4 := Star.one (c := ownA kSl_2 x.blocks [v3]) b3
  obtain ⟨v4, rfl⟩ := osl_one c3
  have g5 := Star.one (c := ownA kSl_153 x.ents [v4]) c3
  have g6 := g4.app g5 i3 j3 k3
  have g7 := g6.up j2
  have g8 := g7.up j1
  have g9 := g8.up j0
  exact ⟨v3, v4, rfl, g9⟩
theorem kT_90_op {x : DInode} {cs : List Value} (w : World) (S : Bs) (h : Star [ownA kT_90 x cs] w S) : ∃ g : Value × Value, cs = [.int .i64 x.kind, .int .i64 x.links, .int .i64 x.size, g.1, g.2] ∧ Star [ownA kSl_2 x.blocks [g.1], ownA kSl_153 x.ents [g.2]] w S := by
  obtain ⟨v3, v4, h1, h2⟩ := kT_90_own (show kT_90.own w S x cs from h.head (c := ownA kT_90 x cs))
  exact ⟨(v3, v4), h1, h2⟩
theorem kT_90_omk {w : World} {S : Bs} (x : DInode) {v3 : Value} {v4 : Value} (h : Star [ownA kSl_2 x.blocks [v3], ownA kSl_153 x.ents [v4]] w S) : kT_90.own w S x [.int .i64 x.kind, .int .i64 x.links, .int .i64 x.size, v3, v4] := by
  have m1 : Mk (kint .i64) x.kind [.int .i64 x.kind] [] := mk_int
  have m2 : Mk (kint .i64) x.links [.int .i64 x.links] [] := mk_int
  have m3 : Mk (kint .i64) x.size [.int .i64 x.size] [] := mk_int
  have m4 : Mk kSl_2 x.blocks [v3] [ownA kSl_2 x.blocks [v3]] := mk_leaf
  have m5 : Mk kSl_153 x.ents [v4] [ownA kSl_153 x.ents [v4]] := mk_leaf
  have m6 : Mk (kpair kSl_2 kSl_153) (x.blocks, x.ents) ([v3] ++ [v4]) ([ownA kSl_2 x.blocks [v3]] ++ [ownA kSl_153 x.ents [v4]]) := mk_pair m4 m5
  have m7 : Mk (kpair (kint .i64) (kpair kSl_2 kSl_153)) (x.size, (x.blocks, x.ents)) ([.int .i64 x.size] ++ ([v3] ++ [v4])) ([] ++ ([ownA kSl_2 x.blocks [v3]] ++ [ownA kSl_153 x.ents [v4]])) := mk_pair m3 m6
  have m8 : Mk (kpair (kint .i64) (kpair (kint .i64) (kpair kSl_2 kSl_153))) (x.links, (x.size, (x.blocks, x.ents))) ([.int .i64 x.links] ++ ([.int .i64 x.size] ++ ([v3] ++ [v4]))) ([] ++ ([] ++ ([ownA kSl_2 x.blocks [v3]] ++ [ownA kSl_153 x.ents [v4]]))) := mk_pair m2 m7
  have m9 : Mk (kpair (kint .i64) (kpair (kint .i64) (kpair (kint .i64) (kpair kSl_2 kSl_153)))) (x.kind, (x.links, (x.size, (x.blocks, x.ents)))) ([.int .i64 x.kind] ++ ([.int .i64 x.links] ++ ([.int .i64 x.size] ++ ([v3] ++ [v4])))) ([] ++ ([] ++ ([] ++ ([ownA kSl_2 x.blocks [v3]] ++ [ownA kSl_153 x.ents [v4]])))) := mk_pair m1 m8
  have m0 : Mk kT_90 x ([.int .i64 x.kind] ++ ([.int .i64 x.links] ++ ([.int .i64 x.size] ++ ([v3] ++ [v4])))) ([] ++ ([] ++ ([] ++ ([ownA kSl_2 x.blocks [v3]] ++ [ownA kSl_153 x.ents [v4]])))) := m9
  exact m0 w S h
def RA_90 (x : DInode) (r : Value) (l : List Asn) : Prop := ∃ v3 v4, r = .agg #[.int .i64 x.kind, .int .i64 x.links, .int .i64 x.size, v3, v4] ∧ l = [ownA kSl_2 x.blocks [v3], ownA kSl_153 x.ents [v4]]
theorem zero_90 (w : World) (S : Bs) : kT_90.own w S (⟨0, 0, 0, [], []⟩ : DInode) [.int .i64 0, .int .i64 0, .int .i64 0, .slice none 0 0, .slice none 0 0] := kT_90_omk (⟨0, 0, 0, [], []⟩ : DInode) (⟨fun _ => False, fun _ => False, own_nil _ _ none, ⟨fun _ => False, fun _ => False, own_nil _ _ none, trivial, fun _ h => h.elim, fun _ h => h.elim, fun _ h => h.elim⟩, fun _ h => h.elim, fun _ h => h.elim, fun _ h => h.elim⟩)
def PA_90 (g e s : Nat) (post : List Value) (x : DInode) (r : Value) (l : List Asn) : Prop := ∃ v3 v4, r = .tuple #[] ∧ l = [rowA g e s 1 ((.int .i64 x.kind) :: (.int .i64 x.links) :: (.int .i64 x.size) :: v3 :: v4 :: post), ownA kSl_2 x.blocks [v3], ownA kSl_153 x.ents [v4]]
abbrev kSl_90 : Kd (List DInode) := kslice 90 72 kT_90
theorem u_22 : Tryz.prog.underlying 22 = some (.slice 90) := by kernel_rfl
theorem ag_22 : AggIs Tryz.prog 22 false := by unfold AggIs; kernel_rfl
theorem z_22 : (Tryz.prog.info? 22).map (·.zero) = some (some (.slice none 0 0)) := by kernel_rfl
theorem sz_22 : (Tryz.prog.info? 22).map (·.size) = some 1 := by kernel_rfl
theorem inf_90 : (Tryz.prog.info? 90).map (fun i => (i.size, i.bytes, i.zero)) = some (kT_90.sz, 72, some (.agg #[.int .i64 0, .int .i64 0, .int .i64 0, .slice none 0 0, .slice none 0 0])) := by kernel_rfl
abbrev kSl_5 : Kd (List UInt8) := kslice 5 1 kbyte
theorem u_41 : Tryz.prog.underlying 41 = some (.slice 5) := by kernel_rfl
theorem ag_41 : AggIs Tryz.prog 41 false := by unfold AggIs; kernel_rfl
theorem z_41 : (Tryz.prog.info? 41).map (·.zero) = some (some (.slice none 0 0)) := by kernel_rfl
theorem sz_41 : (Tryz.prog.info? 41).map (·.size) = some 1 := by kernel_rfl
theorem inf_5 : (Tryz.prog.info? 5).map (fun i => (i.size, i.bytes, i.zero)) = some (kbyte.sz, 1, some (.int .u8 0)) := by kernel_rfl
abbrev kSl_41 : Kd (List (List UInt8)) := kslice 41 24 kSl_5
theorem u_23 : Tryz.prog.underlying 23 = some (.slice 41) := by kernel_rfl
theorem ag_23 : AggIs Tryz.prog 23 false := by unfold AggIs; kernel_rfl
theorem z_23 : (Tryz.prog.info? 23).map (·.zero) = some (some (.slice none 0 0)) := by kernel_rfl
theorem sz_23 : (Tryz.prog.info? 23).map (·.size) = some 1 := by kernel_rfl
theorem inf_41 : (Tryz.prog.info? 41).map (fun i => (i.size, i.bytes, i.zero)) = some (kSl_5.sz, 24, some (.slice none 0 0)) := by kernel_rfl
def kT_25 : Kd DFs := kiso (kpair kSl_90 kSl_41) (fun x => (x.inodes, x.data))
theorem sz_25 : (Tryz.prog.info? 25).map (·.size) = some 2 := by kernel_rfl
theorem z_25 : (Tryz.prog.info? 25).map (·.zero) = some (some (.agg #[.slice none 0 0, .slice none 0 0])) := by kernel_rfl
theorem ag_25 : AggIs Tryz.prog 25 true := by unfold AggIs; kernel_rfl
theorem bl_25 : BuildOk Tryz.prog 25 (.agg #[.slice none 0 0, .slice none 0 0]) #[(0, 1), (1, 1)] := ⟨by kernel_rfl, by kernel_rfl, fun w => by kernel_rfl⟩
theorem fa_25_0 (ad : Addr) (w : World) : (Instr.fieldAt 25 (.pointer (some ad)) 0).run Tryz.prog w = .ok (.pointer (some (ad.add 0))) w := by kernel_rfl
theorem fa_25_1 (ad : Addr) (w : World) : (Instr.fieldAt 25 (.pointer (some ad)) 1).run Tryz.prog w = .ok (.pointer (some (ad.add 1))) w := by kernel_rfl
theorem kT_25_ro {w : World} {F : Bs} {x : DFs} {cs : List Value} (h : kT_25.ro w F x cs) : ∃ v0 v1, cs = [v0, v1] ∧ kSl_90.ro w F x.inodes [v0] ∧ kSl_41.ro w F x.data [v1] := by
  obtain ⟨_, _, rfl, h0, h1⟩ := h
  obtain ⟨v0, rfl⟩ := sl_one h0
  obtain ⟨v1, rfl⟩ := sl_one h1
  exact ⟨v0, v1, rfl, h0, h1⟩
theorem kT_25_mk {w : World} {F : Bs} (x : DFs) {v0 : Value} {v1 : Value} (h0 : kSl_90.ro w F x.inodes [v0]) (h1 : kSl_41.ro w F x.data [v1]) : kT_25.ro w F x [v0, v1] :=
  ⟨_, _, rfl, h0, h1⟩
theorem kT_25_own {w : World} {S : Bs} {x : DFs} {cs : List Value} (h : kT_25.own w S x cs) : ∃ v0 v1, cs = [v0, v1] ∧ Star [ownA kSl_90 x.inodes [v0], ownA kSl_41 x.data [v1]] w S := by
  obtain ⟨_, _, rfl, a0⟩ := h
  obtain ⟨p0, q0, b0, c0, i0, j0, k0⟩ := star2 a0
  obtain ⟨v0, rfl⟩ := osl_one b0
  have g1 := Star.one (c := ownA kSl_90 x.inodes [v0]) b0
  obtain ⟨v1, rfl⟩ := osl_one c0
  have g2 := Star.one (c := ownA kSl_41 x.data [v1]) c0
  have g3 := g1.app g2 i0 j0 k0
  exact ⟨v0, v1, rfl, g3⟩
theorem kT_25_op {x : DFs} {cs : List Value} (w : World) (S : Bs) (h : Star [ownA kT_25 x cs] w S) : ∃ g : Value × Value, cs = [g.1, g.2] ∧ Star [ownA kSl_90 x.inodes [g.1], ownA kSl_41 x.data [g.2]] w S := by
  obtain ⟨v0, v1, h1, h2⟩ := kT_25_own (show kT_25.own w S x cs from h.head (c := ownA kT_25 x cs))
  exact ⟨(v0, v1), h1, h2⟩
theorem kT_25_omk {w : World} {S : Bs} (x : DFs) {v0 : Value} {v1 : Value} (h : Star [ownA kSl_90 x.inodes [v0], ownA kSl_41 x.data [v1]] w S) : kT_25.own w S x [v0, v1] := by
  have m1 : Mk kSl_90 x.inodes [v0] [ownA kSl_90 x.inodes [v0]] := mk_leaf
  have m2 : Mk kSl_41 x.data [v1] [ownA kSl_41 x.data [v1]] := mk_leaf
  have m3 : Mk (kpair kSl_90 kSl_41) (x.inodes, x.data) ([v0] ++ [v1]) ([ownA kSl_90 x.inodes [v0]] ++ [ownA kSl_41 x.data [v1]]) := mk_pair m1 m2
  have m0 : Mk kT_25 x ([v0] ++ [v1]) ([ownA kSl_90 x.inodes [v0]] ++ [ownA kSl_41 x.data [v1]]) := m3
  exact m0 w S h
def RA_25 (x : DFs) (r : Value) (l : List Asn) : Prop := ∃ v0 v1, r = .agg #[v0, v1] ∧ l = [ownA kSl_90 x.inodes [v0], ownA kSl_41 x.data [v1]]
theorem zero_25 (w : World) (S : Bs) : kT_25.own w S (⟨[], []⟩ : DFs) [.slice none 0 0, .slice none 0 0] := kT_25_omk (⟨[], []⟩ : DFs) (⟨fun _ => False, fun _ => False, own_nil _ _ none, ⟨fun _ => False, fun _ => False, own_nil _ _ none, trivial, fun _ h => h.elim, fun _ h => h.elim, fun _ h => h.elim⟩, fun _ h => h.elim, fun _ h => h.elim, fun _ h => h.elim⟩)
def PA_25 (g e s : Nat) (post : List Value) (x : DFs) (r : Value) (l : List Asn) : Prop := ∃ v0 v1, r = .tuple #[] ∧ l = [rowA g e s 1 (v0 :: v1 :: post), ownA kSl_90 x.inodes [v0], ownA kSl_41 x.data [v1]]
def kT_28 : Kd RInt := kiso (kpair (kint .i64) (kint .i64)) (fun x => (x.code, x.val))
theorem sz_28 : (Tryz.prog.info? 28).map (·.size) = some 2 := by kernel_rfl
theorem z_28 : (Tryz.prog.info? 28).map (·.zero) = some (some (.agg #[.int .i64 0, .int .i64 0])) := by kernel_rfl
theorem ag_28 : AggIs Tryz.prog 28 true := by unfold AggIs; kernel_rfl
theorem bl_28 : BuildOk Tryz.prog 28 (.agg #[.int .i64 0, .int .i64 0]) #[(0, 1), (1, 1)] := ⟨by kernel_rfl, by kernel_rfl, fun w => by kernel_rfl⟩
theorem fa_28_0 (ad : Addr) (w : World) : (Instr.fieldAt 28 (.pointer (some ad)) 0).run Tryz.prog w = .ok (.pointer (some (ad.add 0))) w := by kernel_rfl
theorem fa_28_1 (ad : Addr) (w : World) : (Instr.fieldAt 28 (.pointer (some ad)) 1).run Tryz.prog w = .ok (.pointer (some (ad.add 1))) w := by kernel_rfl
theorem ent_gd_28 : Tryz.prog.eqGuardType Tryz.prog.depth 28 = false := by kernel_rfl
theorem ent_eq_28 (x y : RInt) (w : World) : (Op.equalIn 10000 28 (.agg #[.int .i64 x.code, .int .i64 x.val]) (.agg #[.int .i64 y.code, .int .i64 y.val])).run Tryz.prog w = .ok (decide (x = y)) w := by
  rw [run_equalIn_struct w 9999 28 _ _ (by kernel_rfl) (by kernel_rfl)]
  rw [show (Tryz.prog.fieldsOf 28).toList = [(Tryz.prog.fieldsOf 28)[0]!, (Tryz.prog.fieldsOf 28)[1]!] by kernel_rfl]
  refine ((eqFs_cons (a := .int .i64 x.code) (b := .int .i64 y.code) (by kernel_rfl) (fun w => by kernel_rfl) (fun w => by kernel_rfl) (fun w => run_equalIn_int w 9998 _ .i64 .i64 x.code y.code (by kernel_rfl)) (eqFs_cons (a := .int .i64 x.val) (b := .int .i64 y.val) (by kernel_rfl) (fun w => by kernel_rfl) (fun w => by kernel_rfl) (fun w => run_equalIn_int w 9998 _ .i64 .i64 x.val y.val (by kernel_rfl)) eqFs_nil)) w).trans ?_
  congr 1; cases x; cases y; simp only [beq_str, beq_int, Bool.and_true, RInt.mk.injEq, Bool.decide_and]
theorem kT_28_ro {w : World} {F : Bs} {x : RInt} {cs : List Value} (h : kT_28.ro w F x cs) : cs = [.int .i64 x.code, .int .i64 x.val] := by
  obtain ⟨_, _, rfl, ⟨rfl, -⟩, ⟨rfl, -⟩⟩ := h
  exact rfl
theorem kT_28_mk {w : World} {F : Bs} (x : RInt) : kT_28.ro w F x [.int .i64 x.code, .int .i64 x.val] :=
  ⟨_, _, rfl, ⟨rfl, trivial⟩, ⟨rfl, trivial⟩⟩
theorem kT_28_own {w : World} {S : Bs} {x : RInt} {cs : List Value} (h : kT_28.own w S x cs) : cs = [.int .i64 x.code, .int .i64 x.val] ∧ Star [] w S := by
  obtain ⟨_, _, rfl, a0⟩ := h
  obtain ⟨p0, q0, b0, c0, i0, j0, k0⟩ := star2 a0
  obtain ⟨rfl, -⟩ := b0
  obtain ⟨rfl, -⟩ := c0
  exact ⟨rfl, trivial⟩
theorem kT_28_op {x : RInt} {cs : List Value} (w : World) (S : Bs) (h : Star [ownA kT_28 x cs] w S) : ∃ g : Unit, cs = [.int .i64 x.code, .int .i64 x.val] ∧ Star [] w S := by
  obtain ⟨h1, h2⟩ := kT_28_own (show kT_28.own w S x cs from h.head (c := ownA kT_28 x cs))
  exact ⟨(), h1, h2⟩
theorem kT_28_omk {w : World} {S : Bs} (x : RInt) (h : Star [] w S) : kT_28.own w S x [.int .i64 x.code, .int .i64 x.val] := by
  have m1 : Mk (kint .i64) x.code [.int .i64 x.code] [] := mk_int
  have m2 : Mk (kint .i64) x.val [.int .i64 x.val] [] := mk_int
  have m3 : Mk (kpair (kint .i64) (kint .i64)) (x.code, x.val) ([.int .i64 x.code] ++ [.int .i64 x.val]) ([] ++ []) := mk_pair m1 m2
  have m0 : Mk kT_28 x ([.int .i64 x.code] ++ [.int .i64 x.val]) ([] ++ []) := m3
  exact m0 w S h
def RA_28 (x : RInt) (r : Value) (l : List Asn) : Prop := r = .agg #[.int .i64 x.code, .int .i64 x.val] ∧ l = []
theorem zero_28 (w : World) (S : Bs) : kT_28.own w S (⟨0, 0⟩ : RInt) [.int .i64 0, .int .i64 0] := kT_28_omk (⟨0, 0⟩ : RInt) (trivial)
def PA_28 (g e s : Nat) (post : List Value) (x : RInt) (r : Value) (l : List Asn) : Prop := r = .tuple #[] ∧ l = [rowA g e s 1 ((.int .i64 x.code) :: (.int .i64 x.val) :: post)]
def kT_103 : Kd DEnt := kiso (kpair kstr (kint .i64)) (fun x => (x.name, x.ino))
theorem sz_103 : (Tryz.prog.info? 103).map (·.size) = some 2 := by kernel_rfl
theorem z_103 : (Tryz.prog.info? 103).map (·.zero) = some (some (.agg #[.string ⟨#[]⟩, .int .i64 0])) := by kernel_rfl
theorem ag_103 : AggIs Tryz.prog 103 true := by unfold AggIs; kernel_rfl
theorem bl_103 : BuildOk Tryz.prog 103 (.agg #[.string ⟨#[]⟩, .int .i64 0]) #[(0, 1), (1, 1)] := ⟨by kernel_rfl, by kernel_rfl, fun w => by kernel_rfl⟩
theorem fa_103_0 (ad : Addr) (w : World) : (Instr.fieldAt 103 (.pointer (some ad)) 0).run Tryz.prog w = .ok (.pointer (some (ad.add 0))) w := by kernel_rfl
theorem fa_103_1 (ad : Addr) (w : World) : (Instr.fieldAt 103 (.pointer (some ad)) 1).run Tryz.prog w = .ok (.pointer (some (ad.add 1))) w := by kernel_rfl
theorem ent_gd_103 : Tryz.prog.eqGuardType Tryz.prog.depth 103 = false := by kernel_rfl
theorem ent_eq_103 (x y : DEnt) (w : World) : (Op.equalIn 10000 103 (.agg #[.string x.name, .int .i64 x.ino]) (.agg #[.string y.name, .int .i64 y.ino])).run Tryz.prog w = .ok (decide (x = y)) w := by
  rw [run_equalIn_struct w 9999 103 _ _ (by kernel_rfl) (by kernel_rfl)]
  rw [show (Tryz.prog.fieldsOf 103).toList = [(Tryz.prog.fieldsOf 103)[0]!, (Tryz.prog.fieldsOf 103)[1]!] by kernel_rfl]
  refine ((eqFs_cons (a := .string x.name) (b := .string y.name) (by kernel_rfl) (fun w => by kernel_rfl) (fun w => by kernel_rfl) (fun w => run_equalIn_string w 9998 _ x.name y.name (by kernel_rfl)) (eqFs_cons (a := .int .i64 x.ino) (b := .int .i64 y.ino) (by kernel_rfl) (fun w => by kernel_rfl) (fun w => by kernel_rfl) (fun w => run_equalIn_int w 9998 _ .i64 .i64 x.ino y.ino (by kernel_rfl)) eqFs_nil)) w).trans ?_
  congr 1; cases x; cases y; simp only [beq_str, beq_int, Bool.and_true, DEnt.mk.injEq, Bool.decide_and]
theorem kT_103_ro {w : World} {F : Bs} {x : DEnt} {cs : List Value} (h : kT_103.ro w F x cs) : cs = [.string x.name, .int .i64 x.ino] ∧ x.name.size ≤ 140737488351232 := by
  obtain ⟨_, _, rfl, ⟨rfl, s0⟩, ⟨rfl, -⟩⟩ := h
  exact ⟨rfl, s0⟩
theorem kT_103_mk {w : World} {F : Bs} (x : DEnt) (s0 : x.name.size ≤ 140737488351232) : kT_103.ro w F x [.string x.name, .int .i64 x.ino] :=
  ⟨_, _, rfl, ⟨rfl, s0⟩, ⟨rfl, trivial⟩⟩
theorem kT_103_own {w : World} {S : Bs} {x : DEnt} {cs : List Value} (h : kT_103.own w S x cs) : cs = [.string x.name, .int .i64 x.ino] ∧ Star [] w S ∧ x.name.size ≤ 140737488351232 := by
  obtain ⟨_, _, rfl, a0⟩ := h
  obtain ⟨p0, q0, b0, c0, i0, j0, k0⟩ := star2 a0
  obtain ⟨rfl, s0⟩ := b0
  obtain ⟨rfl, -⟩ := c0
  exact ⟨rfl, trivial, s0⟩
theorem kT_103_op {x : DEnt} {cs : List Value} (w : World) (S : Bs) (h : Star [ownA kT_103 x cs] w S) : ∃ g : Unit, (cs = [.string x.name, .int .i64 x.ino] ∧ x.name.size ≤ 140737488351232) ∧ Star [] w S := by
  obtain ⟨h1, h2, s0⟩ := kT_103_own (show kT_103.own w S x cs from h.head (c := ownA kT_103 x cs))
  exact ⟨(), ⟨h1, s0⟩, h2⟩
theorem kT_103_omk {w : World} {S : Bs} (x : DEnt) (h : Star [] w S) (s0 : x.name.size ≤ 140737488351232) : kT_103.own w S x [.string x.name, .int .i64 x.ino] := by
  have m1 : Mk kstr x.name [.string x.name] [] := (mk_str s0)
  have m2 : Mk (kint .i64) x.ino [.int .i64 x.ino] [] := mk_int
  have m3 : Mk (kpair kstr (kint .i64)) (x.name, x.ino) ([.string x.name] ++ [.int .i64 x.ino]) ([] ++ []) := mk_pair m1 m2
  have m0 : Mk kT_103 x ([.string x.name] ++ [.int .i64 x.ino]) ([] ++ []) := m3
  exact m0 w S h
def RA_103 (x : DEnt) (r : Value) (l : List Asn) : Prop := r = .agg #[.string x.name, .int .i64 x.ino] ∧ l = [] ∧ x.name.size ≤ 140737488351232
theorem zero_103 (w : World) (S : Bs) : kT_103.own w S (⟨⟨#[]⟩, 0⟩ : DEnt) [.string ⟨#[]⟩, .int .i64 0] := kT_103_omk (⟨⟨#[]⟩, 0⟩ : DEnt) (trivial) (by decide)
def PA_103 (g e s : Nat) (post : List Value) (x : DEnt) (r : Value) (l : List Asn) : Prop := r = .tuple #[] ∧ l = [rowA g e s 1 ((.string x.name) :: (.int .i64 x.ino) :: post)] ∧ x.name.size ≤ 140737488351232
abbrev kSl_103 : Kd (List DEnt) := kslice 103 24 kT_103
theorem u_53 : Tryz.prog.underlying 53 = some (.slice 103) := by kernel_rfl
theorem ag_53 : AggIs Tryz.prog 53 false := by unfold AggIs; kernel_rfl
theorem z_53 : (Tryz.prog.info? 53).map (·.zero) = some (some (.slice none 0 0)) := by kernel_rfl
theorem sz_53 : (Tryz.prog.info? 53).map (·.size) = some 1 := by kernel_rfl
theorem inf_103 : (Tryz.prog.info? 103).map (fun i => (i.size, i.bytes, i.zero)) = some (kT_103.sz, 24, some (.agg #[.string ⟨#[]⟩, .int .i64 0])) := by kernel_rfl
def kT_55 : Kd DInode := kiso (kpair (kint .i64) (kpair (kint .i64) (kpair (kint .i64) (kpair kSl_2 kSl_103)))) (fun x => (x.kind, x.links, x.size, x.blocks, x.ents))
theorem sz_55 : (Tryz.prog.info? 55).map (·.size) = some 5 := by kernel_rfl
theorem z_55 : (Tryz.prog.info? 55).map (·.zero) = some (some (.agg #[.int .i64 0, .int .i64 0, .int .i64 0, .slice none 0 0, .slice none 0 0])) := by kernel_rfl
theorem ag_55 : AggIs Tryz.prog 55 true := by unfold AggIs; kernel_rfl
theorem bl_55 : BuildOk Tryz.prog 55 (.agg #[.int .i64 0, .int .i64 0, .int .i64 0, .slice none 0 0, .slice none 0 0]) #[(0, 1), (1, 1), (2, 1), (3, 1), (4, 1)] := ⟨by kernel_rfl, by kernel_rfl, fun w => by kernel_rfl⟩
theorem fa_55_0 (ad : Addr) (w : World) : (Instr.fieldAt 55 (.pointer (some ad)) 0).run Tryz.prog w = .ok (.pointer (some (ad.add 0))) w := by kernel_rfl
theorem fa_55_1 (ad : Addr) (w : World) : (Instr.fieldAt 55 (.pointer (some ad)) 1).run Tryz.prog w = .ok (.pointer (some (ad.add 1))) w := by kernel_rfl
theorem fa_55_2 (ad : Addr) (w : World) : (Instr.fieldAt 55 (.pointer (some ad)) 2).run Tryz.prog w = .ok (.pointer (some (ad.add 2))) w := by kernel_rfl
theorem fa_55_3 (ad : Addr) (w : World) : (Instr.fieldAt 55 (.pointer (some ad)) 3).run Tryz.prog w = .ok (.pointer (some (ad.add 3))) w := by kernel_rfl
theorem fa_55_4 (ad : Addr) (w : World) : (Instr.fieldAt 55 (.pointer (some ad)) 4).run Tryz.prog w = .ok (.pointer (some (ad.add 4))) w := by kernel_rfl
theorem kT_55_ro {w : World} {F : Bs} {x : DInode} {cs : List Value} (h : kT_55.ro w F x cs) : ∃ v3 v4, cs = [.int .i64 x.kind, .int .i64 x.links, .int .i64 x.size, v3, v4] ∧ kSl_2.ro w F x.blocks [v3] ∧ kSl_103.ro w F x.ents [v4] := by
  obtain ⟨_, _, rfl, ⟨rfl, -⟩, ⟨_, _, rfl, ⟨rfl, -⟩, ⟨_, _, rfl, ⟨rfl, -⟩, ⟨_, _, rfl, h3, h4⟩⟩⟩⟩ := h
  obtain ⟨v3, rfl⟩ := sl_one h3
  obtain ⟨v4, rfl⟩ := sl_one h4
  exact ⟨v3, v4, rfl, h3, h4⟩
theorem kT_55_mk {w : World} {F : Bs} (x : DInode) {v3 : Value} {v4 : Value} (h3 : kSl_2.ro w F x.blocks [v3]) (h4 : kSl_103.ro w F x.ents [v4]) : kT_55.ro w F x [.int .i64 x.kind, .int .i64 x.links, .int .i64 x.size, v3, v4] :=
  ⟨_, _, rfl, ⟨rfl, trivial⟩, ⟨_, _, rfl, ⟨rfl, trivial⟩, ⟨_, _, rfl, ⟨rfl, trivial⟩, ⟨_, _, rfl, h3, h4⟩⟩⟩⟩
theorem kT_55_own {w : World} {S : Bs} {x : DInode} {cs : List Value} (h : kT_55.own w S x cs) : ∃ v3 v4, cs = [.int .i64 x.kind, .int .i64 x.links, .int .i64 x.size, v3, v4] ∧ Star [ownA kSl_2 x.blocks [v3], ownA kSl_103 x.ents [v4]] w S := by
  obtain ⟨_, _, rfl, a0⟩ := h
  obtain ⟨p0, q0, b0, c0, i0, j0, k0⟩ := star2 a0
  obtain ⟨rfl, -⟩ := b0
  obtain ⟨_, _, rfl, a1⟩ := c0
  obtain ⟨p1, q1, b1, c1, i1, j1, k1⟩ := star2 a1
  obtain ⟨rfl, -⟩ := b1
  obtain ⟨_, _, rfl, a2⟩ := c1
  obtain ⟨p2, q2, b2, c2, i2, j2, k2⟩ := star2 a2
  obtain ⟨rfl, -⟩ := b2
  obtain ⟨_, _, rfl, a3⟩ := c2
  obtain ⟨p3, q3, b3, c3, i3, j3, k3⟩ := star2 a3
  obtain ⟨v3, rfl⟩ := osl_one b3
  have g4 := Star.one (c := ownA kSl_2 x.blocks [v3]) b3
  obtain ⟨v4, rfl⟩ := osl_one c3
  have g5 := Star.one (c := ownA kSl_103 x.ents [v4]) c3
  have g6 := g4.app g5 i3 j3 k3
  have g7 := g6.up j2
  have g8 := g7.up j1
  have g9 := g8.up j0
  exact ⟨v3, v4, rfl, g9⟩
theorem kT_55_op {x : DInode} {cs : List Value} (w : World) (S : Bs) (h : Star [ownA kT_55 x cs] w S) : ∃ g : Value × Value, cs = [.int .i64 x.kind, .int .i64 x.links, .int .i64 x.size, g.1, g.2] ∧ Star [ownA kSl_2 x.blocks [g.1], ownA kSl_103 x.ents [g.2]] w S := by
  obtain ⟨v3, v4, h1, h2⟩ := kT_55_own (show kT_55.own w S x cs from h.head (c := ownA kT_55 x cs))
  exact ⟨(v3, v4), h1, h2⟩
theorem kT_55_omk {w : World} {S : Bs} (x : DInode) {v3 : Value} {v4 : Value} (h : Star [ownA kSl_2 x.blocks [v3], ownA kSl_103 x.ents [v4]] w S) : kT_55.own w S x [.int .i64 x.kind, .int .i64 x.links, .int .i64 x.size, v3, v4] := by
  have m1 : Mk (kint .i64) x.kind [.int .i64 x.kind] [] := mk_int
  have m2 : Mk (kint .i64) x.links [.int .i64 x.links] [] := mk_int
  have m3 : Mk (kint .i64) x.size [.int .i64 x.size] [] := mk_int
  have m4 : Mk kSl_2 x.blocks [v3] [ownA kSl_2 x.blocks [v3]] := mk_leaf
  have m5 : Mk kSl_103 x.ents [v4] [ownA kSl_103 x.ents [v4]] := mk_leaf
  have m6 : Mk (kpair kSl_2 kSl_103) (x.blocks, x.ents) ([v3] ++ [v4]) ([ownA kSl_2 x.blocks [v3]] ++ [ownA kSl_103 x.ents [v4]]) := mk_pair m4 m5
  have m7 : Mk (kpair (kint .i64) (kpair kSl_2 kSl_103)) (x.size, (x.blocks, x.ents)) ([.int .i64 x.size] ++ ([v3] ++ [v4])) ([] ++ ([ownA kSl_2 x.blocks [v3]] ++ [ownA kSl_103 x.ents [v4]])) := mk_pair m3 m6
  have m8 : Mk (kpair (kint .i64) (kpair (kint .i64) (kpair kSl_2 kSl_103))) (x.links, (x.size, (x.blocks, x.ents))) ([.int .i64 x.links] ++ ([.int .i64 x.size] ++ ([v3] ++ [v4]))) ([] ++ ([] ++ ([ownA kSl_2 x.blocks [v3]] ++ [ownA kSl_103 x.ents [v4]]))) := mk_pair m2 m7
  have m9 : Mk (kpair (kint .i64) (kpair (kint .i64) (kpair (kint .i64) (kpair kSl_2 kSl_103)))) (x.kind, (x.links, (x.size, (x.blocks, x.ents)))) ([.int .i64 x.kind] ++ ([.int .i64 x.links] ++ ([.int .i64 x.size] ++ ([v3] ++ [v4])))) ([] ++ ([] ++ ([] ++ ([ownA kSl_2 x.blocks [v3]] ++ [ownA kSl_103 x.ents [v4]])))) := mk_pair m1 m8
  have m0 : Mk kT_55 x ([.int .i64 x.kind] ++ ([.int .i64 x.links] ++ ([.int .i64 x.size] ++ ([v3] ++ [v4])))) ([] ++ ([] ++ ([] ++ ([ownA kSl_2 x.blocks [v3]] ++ [ownA kSl_103 x.ents [v4]])))) := m9
  exact m0 w S h
def RA_55 (x : DInode) (r : Value) (l : List Asn) : Prop := ∃ v3 v4, r = .agg #[.int .i64 x.kind, .int .i64 x.links, .int .i64 x.size, v3, v4] ∧ l = [ownA kSl_2 x.blocks [v3], ownA kSl_103 x.ents [v4]]
theorem zero_55 (w : World) (S : Bs) : kT_55.own w S (⟨0, 0, 0, [], []⟩ : DInode) [.int .i64 0, .int .i64 0, .int .i64 0, .slice none 0 0, .slice none 0 0] := kT_55_omk (⟨0, 0, 0, [], []⟩ : DInode) (⟨fun _ => False, fun _ => False, own_nil _ _ none, ⟨fun _ => False, fun _ => False, own_nil _ _ none, trivial, fun _ h => h.elim, fun _ h => h.elim, fun _ h => h.elim⟩, fun _ h => h.elim, fun _ h => h.elim, fun _ h => h.elim⟩)
def PA_55 (g e s : Nat) (post : List Value) (x : DInode) (r : Value) (l : List Asn) : Prop := ∃ v3 v4, r = .tuple #[] ∧ l = [rowA g e s 1 ((.int .i64 x.kind) :: (.int .i64 x.links) :: (.int .i64 x.size) :: v3 :: v4 :: post), ownA kSl_2 x.blocks [v3], ownA kSl_103 x.ents [v4]]
abbrev kSl_55 : Kd (List DInode) := kslice 55 72 kT_55
theorem u_30 : Tryz.prog.underlying 30 = some (.slice 55) := by kernel_rfl
theorem ag_30 : AggIs Tryz.prog 30 false := by unfold AggIs; kernel_rfl
theorem z_30 : (Tryz.prog.info? 30).map (·.zero) = some (some (.slice none 0 0)) := by kernel_rfl
theorem sz_30 : (Tryz.prog.info? 30).map (·.size) = some 1 := by kernel_rfl
theorem inf_55 : (Tryz.prog.info? 55).map (fun i => (i.size, i.bytes, i.zero)) = some (kT_55.sz, 72, some (.agg #[.int .i64 0, .int .i64 0, .int .i64 0, .slice none 0 0, .slice none 0 0])) := by kernel_rfl
def kT_32 : Kd DFs := kiso (kpair kSl_55 kSl_41) (fun x => (x.inodes, x.data))
theorem sz_32 : (Tryz.prog.info? 32).map (·.size) = some 2 := by kernel_rfl
theorem z_32 : (Tryz.prog.info? 32).map (·.zero) = some (some (.agg #[.slice none 0 0, .slice none 0 0])) := by kernel_rfl
theorem ag_32 : AggIs Tryz.prog 32 true := by unfold AggIs; kernel_rfl
theorem bl_32 : BuildOk Tryz.prog 32 (.agg #[.slice none 0 0, .slice none 0 0]) #[(0, 1), (1, 1)] := ⟨by kernel_rfl, by kernel_rfl, fun w => by kernel_rfl⟩
theorem fa_32_0 (ad : Addr) (w : World) : (Instr.fieldAt 32 (.pointer (some ad)) 0).run Tryz.prog w = .ok (.pointer (some (ad.add 0))) w := by kernel_rfl
theorem fa_32_1 (ad : Addr) (w : World) : (Instr.fieldAt 32 (.pointer (some ad)) 1).run Tryz.prog w = .ok (.pointer (some (ad.add 1))) w := by kernel_rfl
theorem kT_32_ro {w : World} {F : Bs} {x : DFs} {cs : List Value} (h : kT_32.ro w F x cs) : ∃ v0 v1, cs = [v0, v1] ∧ kSl_55.ro w F x.inodes [v0] ∧ kSl_41.ro w F x.data [v1] := by
  obtain ⟨_, _, rfl, h0, h1⟩ := h
  obtain ⟨v0, rfl⟩ := sl_one h0
  obtain ⟨v1, rfl⟩ := sl_one h1
  exact ⟨v0, v1, rfl, h0, h1⟩
theorem kT_32_mk {w : World} {F : Bs} (x : DFs) {v0 : Value} {v1 : Value} (h0 : kSl_55.ro w F x.inodes [v0]) (h1 : kSl_41.ro w F x.data [v1]) : kT_32.ro w F x [v0, v1] :=
  ⟨_, _, rfl, h0, h1⟩
theorem kT_32_own {w : World} {S : Bs} {x : DFs} {cs : List Value} (h : kT_32.own w S x cs) : ∃ v0 v1, cs = [v0, v1] ∧ Star [ownA kSl_55 x.inodes [v0], ownA kSl_41 x.data [v1]] w S := by
  obtain ⟨_, _, rfl, a0⟩ := h
  obtain ⟨p0, q0, b0, c0, i0, j0, k0⟩ := star2 a0
  obtain ⟨v0, rfl⟩ := osl_one b0
  have g1 := Star.one (c := ownA kSl_55 x.inodes [v0]) b0
  obtain ⟨v1, rfl⟩ := osl_one c0
  have g2 := Star.one (c := ownA kSl_41 x.data [v1]) c0
  have g3 := g1.app g2 i0 j0 k0
  exact ⟨v0, v1, rfl, g3⟩
theorem kT_32_op {x : DFs} {cs : List Value} (w : World) (S : Bs) (h : Star [ownA kT_32 x cs] w S) : ∃ g : Value × Value, cs = [g.1, g.2] ∧ Star [ownA kSl_55 x.inodes [g.1], ownA kSl_41 x.data [g.2]] w S := by
  obtain ⟨v0, v1, h1, h2⟩ := kT_32_own (show kT_32.own w S x cs from h.head (c := ownA kT_32 x cs))
  exact ⟨(v0, v1), h1, h2⟩
theorem kT_32_omk {w : World} {S : Bs} (x : DFs) {v0 : Value} {v1 : Value} (h : Star [ownA kSl_55 x.inodes [v0], ownA kSl_41 x.data [v1]] w S) : kT_32.own w S x [v0, v1] := by
  have m1 : Mk kSl_55 x.inodes [v0] [ownA kSl_55 x.inodes [v0]] := mk_leaf
  have m2 : Mk kSl_41 x.data [v1] [ownA kSl_41 x.data [v1]] := mk_leaf
  have m3 : Mk (kpair kSl_55 kSl_41) (x.inodes, x.data) ([v0] ++ [v1]) ([ownA kSl_55 x.inodes [v0]] ++ [ownA kSl_41 x.data [v1]]) := mk_pair m1 m2
  have m0 : Mk kT_32 x ([v0] ++ [v1]) ([ownA kSl_55 x.inodes [v0]] ++ [ownA kSl_41 x.data [v1]]) := m3
  exact m0 w S h
def RA_32 (x : DFs) (r : Value) (l : List Asn) : Prop := ∃ v0 v1, r = .agg #[v0, v1] ∧ l = [ownA kSl_55 x.inodes [v0], ownA kSl_41 x.data [v1]]
theorem zero_32 (w : World) (S : Bs) : kT_32.own w S (⟨[], []⟩ : DFs) [.slice none 0 0, .slice none 0 0] := kT_32_omk (⟨[], []⟩ : DFs) (⟨fun _ => False, fun _ => False, own_nil _ _ none, ⟨fun _ => False, fun _ => False, own_nil _ _ none, trivial, fun _ h => h.elim, fun _ h => h.elim, fun _ h => h.elim⟩, fun _ h => h.elim, fun _ h => h.elim, fun _ h => h.elim⟩)
def PA_32 (g e s : Nat) (post : List Value) (x : DFs) (r : Value) (l : List Asn) : Prop := ∃ v0 v1, r = .tuple #[] ∧ l = [rowA g e s 1 (v0 :: v1 :: post), ownA kSl_55 x.inodes [v0], ownA kSl_41 x.data [v1]]
def kT_38 : Kd RStat := kiso (kpair (kint .i64) (kpair (kint .i64) (kpair (kint .i64) (kpair (kint .i64) (kint .i64))))) (fun x => (x.code, x.inode, x.kind, x.links, x.size))
theorem sz_38 : (Tryz.prog.info? 38).map (·.size) = some 5 := by kernel_rfl
theorem z_38 : (Tryz.prog.info? 38).map (·.zero) = some (some (.agg #[.int .i64 0, .int .i64 0, .int .i64 0, .int .i64 0, .int .i64 0])) := by kernel_rfl
theorem ag_38 : AggIs Tryz.prog 38 true := by unfold AggIs; kernel_rfl
theorem bl_38 : BuildOk Tryz.prog 38 (.agg #[.int .i64 0, .int .i64 0, .int .i64 0, .int .i64 0, .int .i64 0]) #[(0, 1), (1, 1), (2, 1), (3, 1), (4, 1)] := ⟨by kernel_rfl, by kernel_rfl, fun w => by kernel_rfl⟩
theorem fa_38_0 (ad : Addr) (w : World) : (Instr.fieldAt 38 (.pointer (some ad)) 0).run Tryz.prog w = .ok (.pointer (some (ad.add 0))) w := by kernel_rfl
theorem fa_38_1 (ad : Addr) (w : World) : (Instr.fieldAt 38 (.pointer (some ad)) 1).run Tryz.prog w = .ok (.pointer (some (ad.add 1))) w := by kernel_rfl
theorem fa_38_2 (ad : Addr) (w : World) : (Instr.fieldAt 38 (.pointer (some ad)) 2).run Tryz.prog w = .ok (.pointer (some (ad.add 2))) w := by kernel_rfl
theorem fa_38_3 (ad : Addr) (w : World) : (Instr.fieldAt 38 (.pointer (some ad)) 3).run Tryz.prog w = .ok (.pointer (some (ad.add 3))) w := by kernel_rfl
theorem fa_38_4 (ad : Addr) (w : World) : (Instr.fieldAt 38 (.pointer (some ad)) 4).run Tryz.prog w = .ok (.pointer (some (ad.add 4))) w := by kernel_rfl
theorem ent_gd_38 : Tryz.prog.eqGuardType Tryz.prog.depth 38 = false := by kernel_rfl
theorem ent_eq_38 (x y : RStat) (w : World) : (Op.equalIn 10000 38 (.agg #[.int .i64 x.code, .int .i64 x.inode, .int .i64 x.kind, .int .i64 x.links, .int .i64 x.size]) (.agg #[.int .i64 y.code, .int .i64 y.inode, .int .i64 y.kind, .int .i64 y.links, .int .i64 y.size])).run Tryz.prog w = .ok (decide (x = y)) w := by
  rw [run_equalIn_struct w 9999 38 _ _ (by kernel_rfl) (by kernel_rfl)]
  rw [show (Tryz.prog.fieldsOf 38).toList = [(Tryz.prog.fieldsOf 38)[0]!, (Tryz.prog.fieldsOf 38)[1]!, (Tryz.prog.fieldsOf 38)[2]!, (Tryz.prog.fieldsOf 38)[3]!, (Tryz.prog.fieldsOf 38)[4]!] by kernel_rfl]
  refine ((eqFs_cons (a := .int .i64 x.code) (b := .int .i64 y.code) (by kernel_rfl) (fun w => by kernel_rfl) (fun w => by kernel_rfl) (fun w => run_equalIn_int w 9998 _ .i64 .i64 x.code y.code (by kernel_rfl)) (eqFs_cons (a := .int .i64 x.inode) (b := .int .i64 y.inode) (by kernel_rfl) (fun w => by kernel_rfl) (fun w => by kernel_rfl) (fun w => run_equalIn_int w 9998 _ .i64 .i64 x.inode y.inode (by kernel_rfl)) (eqFs_cons (a := .int .i64 x.kind) (b := .int .i64 y.kind) (by kernel_rfl) (fun w => by kernel_rfl) (fun w => by kernel_rfl) (fun w => run_equalIn_int w 9998 _ .i64 .i64 x.kind y.kind (by kernel_rfl)) (eqFs_cons (a := .int .i64 x.links) (b := .int .i64 y.links) (by kernel_rfl) (fun w => by kernel_rfl) (fun w => by kernel_rfl) (fun w => run_equalIn_int w 9998 _ .i64 .i64 x.links y.links (by kernel_rfl)) (eqFs_cons (a := .int .i64 x.size) (b := .int .i64 y.size) (by kernel_rfl) (fun w => by kernel_rfl) (fun w => by kernel_rfl) (fun w => run_equalIn_int w 9998 _ .i64 .i64 x.size y.size (by kernel_rfl)) eqFs_nil))))) w).trans ?_
  congr 1; cases x; cases y; simp only [beq_str, beq_int, Bool.and_true, RStat.mk.injEq, Bool.decide_and]
theorem kT_38_ro {w : World} {F : Bs} {x : RStat} {cs : List Value} (h : kT_38.ro w F x cs) : cs = [.int .i64 x.code, .int .i64 x.inode, .int .i64 x.kind, .int .i64 x.links, .int .i64 x.size] := by
  obtain ⟨_, _, rfl, ⟨rfl, -⟩, ⟨_, _, rfl, ⟨rfl, -⟩, ⟨_, _, rfl, ⟨rfl, -⟩, ⟨_, _, rfl, ⟨rfl, -⟩, ⟨rfl, -⟩⟩⟩⟩⟩ := h
  exact rfl
theorem kT_38_mk {w : World} {F : Bs} (x : RStat) : kT_38.ro w F x [.int .i64 x.code, .int .i64 x.inode, .int .i64 x.kind, .int .i64 x.links, .int .i64 x.size] :=
  ⟨_, _, rfl, ⟨rfl, trivial⟩, ⟨_, _, rfl, ⟨rfl, trivial⟩, ⟨_, _, rfl, ⟨rfl, trivial⟩, ⟨_, _, rfl, ⟨rfl, trivial⟩, ⟨rfl, trivial⟩⟩⟩⟩⟩
theorem kT_38_own {w : World} {S : Bs} {x : RStat} {cs : List Value} (h : kT_38.own w S x cs) : cs = [.int .i64 x.code, .int .i64 x.inode, .int .i64 x.kind, .int .i64 x.links, .int .i64 x.size] ∧ Star [] w S := by
  obtain ⟨_, _, rfl, a0⟩ := h
  obtain ⟨p0, q0, b0, c0, i0, j0, k0⟩ := star2 a0
  obtain ⟨rfl, -⟩ := b0
  obtain ⟨_, _, rfl, a1⟩ := c0
  obtain ⟨p1, q1, b1, c1, i1, j1, k1⟩ := star2 a1
  obtain ⟨rfl, -⟩ := b1
  obtain ⟨_, _, rfl, a2⟩ := c1
  obtain ⟨p2, q2, b2, c2, i2, j2, k2⟩ := star2 a2
  obtain ⟨rfl, -⟩ := b2
  obtain ⟨_, _, rfl, a3⟩ := c2
  obtain ⟨p3, q3, b3, c3, i3, j3, k3⟩ := star2 a3
  obtain ⟨rfl, -⟩ := b3
  obtain ⟨rfl, -⟩ := c3
  exact ⟨rfl, trivial⟩
theorem kT_38_op {x : RStat} {cs : List Value} (w : World) (S : Bs) (h : Star [ownA kT_38 x cs] w S) : ∃ g : Unit, cs = [.int .i64 x.code, .int .i64 x.inode, .int .i64 x.kind, .int .i64 x.links, .int .i64 x.size] ∧ Star [] w S := by
  obtain ⟨h1, h2⟩ := kT_38_own (show kT_38.own w S x cs from h.head (c := ownA kT_38 x cs))
  exact ⟨(), h1, h2⟩
theorem kT_38_omk {w : World} {S : Bs} (x : RStat) (h : Star [] w S) : kT_38.own w S x [.int .i64 x.code, .int .i64 x.inode, .int .i64 x.kind, .int .i64 x.links, .int .i64 x.size] := by
  have m1 : Mk (kint .i64) x.code [.int .i64 x.code] [] := mk_int
  have m2 : Mk (kint .i64) x.inode [.int .i64 x.inode] [] := mk_int
  have m3 : Mk (kint .i64) x.kind [.int .i64 x.kind] [] := mk_int
  have m4 : Mk (kint .i64) x.links [.int .i64 x.links] [] := mk_int
  have m5 : Mk (kint .i64) x.size [.int .i64 x.size] [] := mk_int
  have m6 : Mk (kpair (kint .i64) (kint .i64)) (x.links, x.size) ([.int .i64 x.links] ++ [.int .i64 x.size]) ([] ++ []) := mk_pair m4 m5
  have m7 : Mk (kpair (kint .i64) (kpair (kint .i64) (kint .i64))) (x.kind, (x.links, x.size)) ([.int .i64 x.kind] ++ ([.int .i64 x.links] ++ [.int .i64 x.size])) ([] ++ ([] ++ [])) := mk_pair m3 m6
  have m8 : Mk (kpair (kint .i64) (kpair (kint .i64) (kpair (kint .i64) (kint .i64)))) (x.inode, (x.kind, (x.links, x.size))) ([.int .i64 x.inode] ++ ([.int .i64 x.kind] ++ ([.int .i64 x.links] ++ [.int .i64 x.size]))) ([] ++ ([] ++ ([] ++ []))) := mk_pair m2 m7
  have m9 : Mk (kpair (kint .i64) (kpair (kint .i64) (kpair (kint .i64) (kpair (kint .i64) (kint .i64))))) (x.code, (x.inode, (x.kind, (x.links, x.size)))) ([.int .i64 x.code] ++ ([.int .i64 x.inode] ++ ([.int .i64 x.kind] ++ ([.int .i64 x.links] ++ [.int .i64 x.size])))) ([] ++ ([] ++ ([] ++ ([] ++ [])))) := mk_pair m1 m8
  have m0 : Mk kT_38 x ([.int .i64 x.code] ++ ([.int .i64 x.inode] ++ ([.int .i64 x.kind] ++ ([.int .i64 x.links] ++ [.int .i64 x.size])))) ([] ++ ([] ++ ([] ++ ([] ++ [])))) := m9
  exact m0 w S h
def RA_38 (x : RStat) (r : Value) (l : List Asn) : Prop := r = .agg #[.int .i64 x.code, .int .i64 x.inode, .int .i64 x.kind, .int .i64 x.links, .int .i64 x.size] ∧ l = []
theorem zero_38 (w : World) (S : Bs) : kT_38.own w S (⟨0, 0, 0, 0, 0⟩ : RStat) [.int .i64 0, .int .i64 0, .int .i64 0, .int .i64 0, .int .i64 0] := kT_38_omk (⟨0, 0, 0, 0, 0⟩ : RStat) (trivial)
def PA_38 (g e s : Nat) (post : List Value) (x : RStat) (r : Value) (l : List Asn) : Prop := r = .tuple #[] ∧ l = [rowA g e s 1 ((.int .i64 x.code) :: (.int .i64 x.inode) :: (.int .i64 x.kind) :: (.int .i64 x.links) :: (.int .i64 x.size) :: post)]
abbrev kSl_9 : Kd (List ByteArray) := kslice 9 16 kstr
theorem u_44 : Tryz.prog.underlying 44 = some (.slice 9) := by kernel_rfl
theorem ag_44 : AggIs Tryz.prog 44 false := by unfold AggIs; kernel_rfl
theorem z_44 : (Tryz.prog.info? 44).map (·.zero) = some (some (.slice none 0 0)) := by kernel_rfl
theorem sz_44 : (Tryz.prog.info? 44).map (·.size) = some 1 := by kernel_rfl
theorem inf_9 : (Tryz.prog.info? 9).map (fun i => (i.size, i.bytes, i.zero)) = some (kstr.sz, 16, some (.string ⟨#[]⟩)) := by kernel_rfl
def kT_46 : Kd RNames := kiso (kpair (kint .i64) kSl_9) (fun x => (x.code, x.names))
theorem sz_46 : (Tryz.prog.info? 46).map (·.size) = some 2 := by kernel_rfl
theorem z_46 : (Tryz.prog.info? 46).map (·.zero) = some (some (.agg #[.int .i64 0, .slice none 0 0])) := by kernel_rfl
theorem ag_46 : AggIs Tryz.prog 46 true := by unfold AggIs; kernel_rfl
theorem bl_46 : BuildOk Tryz.prog 46 (.agg #[.int .i64 0, .slice none 0 0]) #[(0, 1), (1, 1)] := ⟨by kernel_rfl, by kernel_rfl, fun w => by kernel_rfl⟩
theorem fa_46_0 (ad : Addr) (w : World) : (Instr.fieldAt 46 (.pointer (some ad)) 0).run Tryz.prog w = .ok (.pointer (some (ad.add 0))) w := by kernel_rfl
theorem fa_46_1 (ad : Addr) (w : World) : (Instr.fieldAt 46 (.pointer (some ad)) 1).run Tryz.prog w = .ok (.pointer (some (ad.add 1))) w := by kernel_rfl
theorem kT_46_ro {w : World} {F : Bs} {x : RNames} {cs : List Value} (h : kT_46.ro w F x cs) : ∃ v1, cs = [.int .i64 x.code, v1] ∧ kSl_9.ro w F x.names [v1] := by
  obtain ⟨_, _, rfl, ⟨rfl, -⟩, h1⟩ := h
  obtain ⟨v1, rfl⟩ := sl_one h1
  exact ⟨v1, rfl, h1⟩
theorem kT_46_mk {w : World} {F : Bs} (x : RNames) {v1 : Value} (h1 : kSl_9.ro w F x.names [v1]) : kT_46.ro w F x [.int .i64 x.code, v1] :=
  ⟨_, _, rfl, ⟨rfl, trivial⟩, h1⟩
theorem kT_46_own {w : World} {S : Bs} {x : RNames} {cs : List Value} (h : kT_46.own w S x cs) : ∃ v1, cs = [.int .i64 x.code, v1] ∧ Star [ownA kSl_9 x.names [v1]] w S := by
  obtain ⟨_, _, rfl, a0⟩ := h
  obtain ⟨p0, q0, b0, c0, i0, j0, k0⟩ := star2 a0
  obtain ⟨rfl, -⟩ := b0
  obtain ⟨v1, rfl⟩ := osl_one c0
  have g1 := Star.one (c := ownA kSl_9 x.names [v1]) c0
  have g2 := g1.up j0
  exact ⟨v1, rfl, g2⟩
theorem kT_46_op {x : RNames} {cs : List Value} (w : World) (S : Bs) (h : Star [ownA kT_46 x cs] w S) : ∃ g : Value, cs = [.int .i64 x.code, g] ∧ Star [ownA kSl_9 x.names [g]] w S := by
  obtain ⟨v1, h1, h2⟩ := kT_46_own (show kT_46.own w S x cs from h.head (c := ownA kT_46 x cs))
  exact ⟨(v1), h1, h2⟩
theorem kT_46_omk {w : World} {S : Bs} (x : RNames) {v1 : Value} (h : Star [ownA kSl_9 x.names [v1]] w S) : kT_46.own w S x [.int .i64 x.code, v1] := by
  have m1 : Mk (kint .i64) x.code [.int .i64 x.code] [] := mk_int
  have m2 : Mk kSl_9 x.names [v1] [ownA kSl_9 x.names [v1]] := mk_leaf
  have m3 : Mk (kpair (kint .i64) kSl_9) (x.code, x.names) ([.int .i64 x.code] ++ [v1]) ([] ++ [ownA kSl_9 x.names [v1]]) := mk_pair m1 m2
  have m0 : Mk kT_46 x ([.int .i64 x.code] ++ [v1]) ([] ++ [ownA kSl_9 x.names [v1]]) := m3
  exact m0 w S h
def RA_46 (x : RNames) (r : Value) (l : List Asn) : Prop := ∃ v1, r = .agg #[.int .i64 x.code, v1] ∧ l = [ownA kSl_9 x.names [v1]]
theorem zero_46 (w : World) (S : Bs) : kT_46.own w S (⟨0, []⟩ : RNames) [.int .i64 0, .slice none 0 0] := kT_46_omk (⟨0, []⟩ : RNames) (⟨fun _ => False, fun _ => False, own_nil _ _ none, trivial, fun _ h => h.elim, fun _ h => h.elim, fun _ h => h.elim⟩)
def PA_46 (g e s : Nat) (post : List Value) (x : RNames) (r : Value) (l : List Asn) : Prop := ∃ v1, r = .tuple #[] ∧ l = [rowA g e s 1 ((.int .i64 x.code) :: v1 :: post), ownA kSl_9 x.names [v1]]
def kT_50 : Kd RText := kiso (kpair (kint .i64) kstr) (fun x => (x.code, x.text))
theorem sz_50 : (Tryz.prog.info? 50).map (·.size) = some 2 := by kernel_rfl
theorem z_50 : (Tryz.prog.info? 50).map (·.zero) = some (some (.agg #[.int .i64 0, .string ⟨#[]⟩])) := by kernel_rfl
theorem ag_50 : AggIs Tryz.prog 50 true := by unfold AggIs; kernel_rfl
theorem bl_50 : BuildOk Tryz.prog 50 (.agg #[.int .i64 0, .string ⟨#[]⟩]) #[(0, 1), (1, 1)] := ⟨by kernel_rfl, by kernel_rfl, fun w => by kernel_rfl⟩
theorem fa_50_0 (ad : Addr) (w : World) : (Instr.fieldAt 50 (.pointer (some ad)) 0).run Tryz.prog w = .ok (.pointer (some (ad.add 0))) w := by kernel_rfl
theorem fa_50_1 (ad : Addr) (w : World) : (Instr.fieldAt 50 (.pointer (some ad)) 1).run Tryz.prog w = .ok (.pointer (some (ad.add 1))) w := by kernel_rfl
theorem ent_gd_50 : Tryz.prog.eqGuardType Tryz.prog.depth 50 = false := by kernel_rfl
theorem ent_eq_50 (x y : RText) (w : World) : (Op.equalIn 10000 50 (.agg #[.int .i64 x.code, .string x.text]) (.agg #[.int .i64 y.code, .string y.text])).run Tryz.prog w = .ok (decide (x = y)) w := by
  rw [run_equalIn_struct w 9999 50 _ _ (by kernel_rfl) (by kernel_rfl)]
  rw [show (Tryz.prog.fieldsOf 50).toList = [(Tryz.prog.fieldsOf 50)[0]!, (Tryz.prog.fieldsOf 50)[1]!] by kernel_rfl]
  refine ((eqFs_cons (a := .int .i64 x.code) (b := .int .i64 y.code) (by kernel_rfl) (fun w => by kernel_rfl) (fun w => by kernel_rfl) (fun w => run_equalIn_int w 9998 _ .i64 .i64 x.code y.code (by kernel_rfl)) (eqFs_cons (a := .string x.text) (b := .string y.text) (by kernel_rfl) (fun w => by kernel_rfl) (fun w => by kernel_rfl) (fun w => run_equalIn_string w 9998 _ x.text y.text (by kernel_rfl)) eqFs_nil)) w).trans ?_
  congr 1; cases x; cases y; simp only [beq_str, beq_int, Bool.and_true, RText.mk.injEq, Bool.decide_and]
theorem kT_50_ro {w : World} {F : Bs} {x : RText} {cs : List Value} (h : kT_50.ro w F x cs) : cs = [.int .i64 x.code, .string x.text] ∧ x.text.size ≤ 140737488351232 := by
  obtain ⟨_, _, rfl, ⟨rfl, -⟩, ⟨rfl, s1⟩⟩ := h
  exact ⟨rfl, s1⟩
theorem kT_50_mk {w : World} {F : Bs} (x : RText) (s1 : x.text.size ≤ 140737488351232) : kT_50.ro w F x [.int .i64 x.code, .string x.text] :=
  ⟨_, _, rfl, ⟨rfl, trivial⟩, ⟨rfl, s1⟩⟩
theorem kT_50_own {w : World} {S : Bs} {x : RText} {cs : List Value} (h : kT_50.own w S x cs) : cs = [.int .i64 x.code, .string x.text] ∧ Star [] w S ∧ x.text.size ≤ 140737488351232 := by
  obtain ⟨_, _, rfl, a0⟩ := h
  obtain ⟨p0, q0, b0, c0, i0, j0, k0⟩ := star2 a0
  obtain ⟨rfl, -⟩ := b0
  obtain ⟨rfl, s1⟩ := c0
  exact ⟨rfl, trivial, s1⟩
theorem kT_50_op {x : RText} {cs : List Value} (w : World) (S : Bs) (h : Star [ownA kT_50 x cs] w S) : ∃ g : Unit, (cs = [.int .i64 x.code, .string x.text] ∧ x.text.size ≤ 140737488351232) ∧ Star [] w S := by
  obtain ⟨h1, h2, s1⟩ := kT_50_own (show kT_50.own w S x cs from h.head (c := ownA kT_50 x cs))
  exact ⟨(), ⟨h1, s1⟩, h2⟩
theorem kT_50_omk {w : World} {S : Bs} (x : RText) (h : Star [] w S) (s1 : x.text.size ≤ 140737488351232) : kT_50.own w S x [.int .i64 x.code, .string x.text] := by
  have m1 : Mk (kint .i64) x.code [.int .i64 x.code] [] := mk_int
  have m2 : Mk kstr x.text [.string x.text] [] := (mk_str s1)
  have m3 : Mk (kpair (kint .i64) kstr) (x.code, x.text) ([.int .i64 x.code] ++ [.string x.text]) ([] ++ []) := mk_pair m1 m2
  have m0 : Mk kT_50 x ([.int .i64 x.code] ++ [.string x.text]) ([] ++ []) := m3
  exact m0 w S h
def RA_50 (x : RText) (r : Value) (l : List Asn) : Prop := r = .agg #[.int .i64 x.code, .string x.text] ∧ l = [] ∧ x.text.size ≤ 140737488351232
theorem zero_50 (w : World) (S : Bs) : kT_50.own w S (⟨0, ⟨#[]⟩⟩ : RText) [.int .i64 0, .string ⟨#[]⟩] := kT_50_omk (⟨0, ⟨#[]⟩⟩ : RText) (trivial) (by decide)
def PA_50 (g e s : Nat) (post : List Value) (x : RText) (r : Value) (l : List Asn) : Prop := r = .tuple #[] ∧ l = [rowA g e s 1 ((.int .i64 x.code) :: (.string x.text) :: post)] ∧ x.text.size ≤ 140737488351232
def kT_109 : Kd DSrc := kiso (kpair kSl_5 (kint .i64)) (fun x => (x.code, x.at_))
theorem sz_109 : (Tryz.prog.info? 109).map (·.size) = some 2 := by kernel_rfl
theorem z_109 : (Tryz.prog.info? 109).map (·.zero) = some (some (.agg #[.slice none 0 0, .int .i64 0])) := by kernel_rfl
theorem ag_109 : AggIs Tryz.prog 109 true := by unfold AggIs; kernel_rfl
theorem bl_109 : BuildOk Tryz.prog 109 (.agg #[.slice none 0 0, .int .i64 0]) #[(0, 1), (1, 1)] := ⟨by kernel_rfl, by kernel_rfl, fun w => by kernel_rfl⟩
theorem fa_109_0 (ad : Addr) (w : World) : (Instr.fieldAt 109 (.pointer (some ad)) 0).run Tryz.prog w = .ok (.pointer (some (ad.add 0))) w := by kernel_rfl
theorem fa_109_1 (ad : Addr) (w : World) : (Instr.fieldAt 109 (.pointer (some ad)) 1).run Tryz.prog w = .ok (.pointer (some (ad.add 1))) w := by kernel_rfl
theorem kT_109_ro {w : World} {F : Bs} {x : DSrc} {cs : List Value} (h : kT_109.ro w F x cs) : ∃ v0, cs = [v0, .int .i64 x.at_] ∧ kSl_5.ro w F x.code [v0] := by
  obtain ⟨_, _, rfl, h0, ⟨rfl, -⟩⟩ := h
  obtain ⟨v0, rfl⟩ := sl_one h0
  exact ⟨v0, rfl, h0⟩
theorem kT_109_mk {w : World} {F : Bs} (x : DSrc) {v0 : Value} (h0 : kSl_5.ro w F x.code [v0]) : kT_109.ro w F x [v0, .int .i64 x.at_] :=
  ⟨_, _, rfl, h0, ⟨rfl, trivial⟩⟩
theorem kT_109_own {w : World} {S : Bs} {x : DSrc} {cs : List Value} (h : kT_109.own w S x cs) : ∃ v0, cs = [v0, .int .i64 x.at_] ∧ Star [ownA kSl_5 x.code [v0]] w S := by
  obtain ⟨_, _, rfl, a0⟩ := h
  obtain ⟨p0, q0, b0, c0, i0, j0, k0⟩ := star2 a0
  obtain ⟨v0, rfl⟩ := osl_one b0
  have g1 := Star.one (c := ownA kSl_5 x.code [v0]) b0
  obtain ⟨rfl, -⟩ := c0
  have g2 := g1.up i0
  exact ⟨v0, rfl, g2⟩
theorem kT_109_op {x : DSrc} {cs : List Value} (w : World) (S : Bs) (h : Star [ownA kT_109 x cs] w S) : ∃ g : Value, cs = [g, .int .i64 x.at_] ∧ Star [ownA kSl_5 x.code [g]] w S := by
  obtain ⟨v0, h1, h2⟩ := kT_109_own (show kT_109.own w S x cs from h.head (c := ownA kT_109 x cs))
  exact ⟨(v0), h1, h2⟩
theorem kT_109_omk {w : World} {S : Bs} (x : DSrc) {v0 : Value} (h : Star [ownA kSl_5 x.code [v0]] w S) : kT_109.own w S x [v0, .int .i64 x.at_] := by
  have m1 : Mk kSl_5 x.code [v0] [ownA kSl_5 x.code [v0]] := mk_leaf
  have m2 : Mk (kint .i64) x.at_ [.int .i64 x.at_] [] := mk_int
  have m3 : Mk (kpair kSl_5 (kint .i64)) (x.code, x.at_) ([v0] ++ [.int .i64 x.at_]) ([ownA kSl_5 x.code [v0]] ++ []) := mk_pair m1 m2
  have m0 : Mk kT_109 x ([v0] ++ [.int .i64 x.at_]) ([ownA kSl_5 x.code [v0]] ++ []) := m3
  exact m0 w S h
def RA_109 (x : DSrc) (r : Value) (l : List Asn) : Prop := ∃ v0, r = .agg #[v0, .int .i64 x.at_] ∧ l = [ownA kSl_5 x.code [v0]]
theorem zero_109 (w : World) (S : Bs) : kT_109.own w S (⟨[], 0⟩ : DSrc) [.slice none 0 0, .int .i64 0] := kT_109_omk (⟨[], 0⟩ : DSrc) (⟨fun _ => False, fun _ => False, own_nil _ _ none, trivial, fun _ h => h.elim, fun _ h => h.elim, fun _ h => h.elim⟩)
def PA_109 (g e s : Nat) (post : List Value) (x : DSrc) (r : Value) (l : List Asn) : Prop := ∃ v0, r = .tuple #[] ∧ l = [rowA g e s 1 (v0 :: (.int .i64 x.at_) :: post), ownA kSl_5 x.code [v0]]
abbrev kSl_4 : Kd (List Bool) := kslice 4 1 kbool
theorem u_119 : Tryz.prog.underlying 119 = some (.slice 4) := by kernel_rfl
theorem ag_119 : AggIs Tryz.prog 119 false := by unfold AggIs; kernel_rfl
theorem z_119 : (Tryz.prog.info? 119).map (·.zero) = some (some (.slice none 0 0)) := by kernel_rfl
theorem sz_119 : (Tryz.prog.info? 119).map (·.size) = some 1 := by kernel_rfl
theorem inf_4 : (Tryz.prog.info? 4).map (fun i => (i.size, i.bytes, i.zero)) = some (kbool.sz, 1, some (.bool false)) := by kernel_rfl
abbrev kSl_44 : Kd (List (List ByteArray)) := kslice 44 24 kSl_9
theorem u_163 : Tryz.prog.underlying 163 = some (.slice 44) := by kernel_rfl
theorem ag_163 : AggIs Tryz.prog 163 false := by unfold AggIs; kernel_rfl
theorem z_163 : (Tryz.prog.info? 163).map (·.zero) = some (some (.slice none 0 0)) := by kernel_rfl
theorem sz_163 : (Tryz.prog.info? 163).map (·.size) = some 1 := by kernel_rfl
theorem inf_44 : (Tryz.prog.info? 44).map (fun i => (i.size, i.bytes, i.zero)) = some (kSl_9.sz, 24, some (.slice none 0 0)) := by kernel_rfl
theorem u_171 : Tryz.prog.underlying 171 = some (.int .u64) := by kernel_rfl
theorem sz_171 : (Tryz.prog.info? 171).map (·.size) = some 1 := by kernel_rfl
theorem z_171 : (Tryz.prog.info? 171).map (·.zero) = some (some (.int .u64 0)) := by kernel_rfl
theorem ag_171 : AggIs Tryz.prog 171 false := by unfold AggIs; kernel_rfl
def kT_176 : Kd RFs := kiso (kpair (kint .i64) kT_32) (fun x => (x.code, x.fs))
theorem sz_176 : (Tryz.prog.info? 176).map (·.size) = some 3 := by kernel_rfl
theorem z_176 : (Tryz.prog.info? 176).map (·.zero) = some (some (.agg #[.int .i64 0, .slice none 0 0, .slice none 0 0])) := by kernel_rfl
theorem ag_176 : AggIs Tryz.prog 176 true := by unfold AggIs; kernel_rfl
theorem bl_176 : BuildOk Tryz.prog 176 (.agg #[.int .i64 0, .slice none 0 0, .slice none 0 0]) #[(0, 1), (1, 2)] := ⟨by kernel_rfl, by kernel_rfl, fun w => by kernel_rfl⟩
theorem fa_176_0 (ad : Addr) (w : World) : (Instr.fieldAt 176 (.pointer (some ad)) 0).run Tryz.prog w = .ok (.pointer (some (ad.add 0))) w := by kernel_rfl
theorem fa_176_1 (ad : Addr) (w : World) : (Instr.fieldAt 176 (.pointer (some ad)) 1).run Tryz.prog w = .ok (.pointer (some (ad.add 1))) w := by kernel_rfl
theorem kT_176_ro {w : World} {F : Bs} {x : RFs} {cs : List Value} (h : kT_176.ro w F x cs) : ∃ v1 v2, cs = [.int .i64 x.code, v1, v2] ∧ kSl_55.ro w F x.fs.inodes [v1] ∧ kSl_41.ro w F x.fs.data [v2] := by
  obtain ⟨_, _, rfl, ⟨rfl, -⟩, ⟨_, _, rfl, h1, h2⟩⟩ := h
  obtain ⟨v1, rfl⟩ := sl_one h1
  obtain ⟨v2, rfl⟩ := sl_one h2
  exact ⟨v1, v2, rfl, h1, h2⟩
theorem kT_176_mk {w : World} {F : Bs} (x : RFs) {v1 : Value} {v2 : Value} (h1 : kSl_55.ro w F x.fs.inodes [v1]) (h2 : kSl_41.ro w F x.fs.data [v2]) : kT_176.ro w F x [.int .i64 x.code, v1, v2] :=
  ⟨_, _, rfl, ⟨rfl, trivial⟩, ⟨_, _, rfl, h1, h2⟩⟩
theorem kT_176_own {w : World} {S : Bs} {x : RFs} {cs : List Value} (h : kT_176.own w S x cs) : ∃ v1 v2, cs = [.int .i64 x.code, v1, v2] ∧ Star [ownA kSl_55 x.fs.inodes [v1], ownA kSl_41 x.fs.data [v2]] w S := by
  obtain ⟨_, _, rfl, a0⟩ := h
  obtain ⟨p0, q0, b0, c0, i0, j0, k0⟩ := star2 a0
  obtain ⟨rfl, -⟩ := b0
  obtain ⟨_, _, rfl, a1⟩ := c0
  obtain ⟨p1, q1, b1, c1, i1, j1, k1⟩ := star2 a1
  obtain ⟨v1, rfl⟩ := osl_one b1
  have g2 := Star.one (c := ownA kSl_55 x.fs.inodes [v1]) b1
  obtain ⟨v2, rfl⟩ := osl_one c1
  have g3 := Star.one (c := ownA kSl_41 x.fs.data [v2]) c1
  have g4 := g2.app g3 i1 j1 k1
  have g5 := g4.up j0
  exact ⟨v1, v2, rfl, g5⟩
theorem kT_176_op {x : RFs} {cs : List Value} (w : World) (S : Bs) (h : Star [ownA kT_176 x cs] w S) : ∃ g : Value × Value, cs = [.int .i64 x.code, g.1, g.2] ∧ Star [ownA kSl_55 x.fs.inodes [g.1], ownA kSl_41 x.fs.data [g.2]] w S := by
  obtain ⟨v1, v2, h1, h2⟩ := kT_176_own (show kT_176.own w S x cs from h.head (c := ownA kT_176 x cs))
  exact ⟨(v1, v2), h1, h2⟩
theorem kT_176_omk {w : World} {S : Bs} (x : RFs) {v1 : Value} {v2 : Value} (h : Star [ownA kSl_55 x.fs.inodes [v1], ownA kSl_41 x.fs.data [v2]] w S) : kT_176.own w S x [.int .i64 x.code, v1, v2] := by
  have m1 : Mk (kint .i64) x.code [.int .i64 x.code] [] := mk_int
  have m3 : Mk kSl_55 x.fs.inodes [v1] [ownA kSl_55 x.fs.inodes [v1]] := mk_leaf
  have m4 : Mk kSl_41 x.fs.data [v2] [ownA kSl_41 x.fs.data [v2]] := mk_leaf
  have m5 : Mk (kpair kSl_55 kSl_41) (x.fs.inodes, x.fs.data) ([v1] ++ [v2]) ([ownA kSl_55 x.fs.inodes [v1]] ++ [ownA kSl_41 x.fs.data [v2]]) := mk_pair m3 m4
  have m2 : Mk kT_32 x.fs ([v1] ++ [v2]) ([ownA kSl_55 x.fs.inodes [v1]] ++ [ownA kSl_41 x.fs.data [v2]]) := m5
  have m6 : Mk (kpair (kint .i64) kT_32) (x.code, x.fs) ([.int .i64 x.code] ++ ([v1] ++ [v2])) ([] ++ ([ownA kSl_55 x.fs.inodes [v1]] ++ [ownA kSl_41 x.fs.data [v2]])) := mk_pair m1 m2
  have m0 : Mk kT_176 x ([.int .i64 x.code] ++ ([v1] ++ [v2])) ([] ++ ([ownA kSl_55 x.fs.inodes [v1]] ++ [ownA kSl_41 x.fs.data [v2]])) := m6
  exact m0 w S h
def RA_176 (x : RFs) (r : Value) (l : List Asn) : Prop := ∃ v1 v2, r = .agg #[.int .i64 x.code, v1, v2] ∧ l = [ownA kSl_55 x.fs.inodes [v1], ownA kSl_41 x.fs.data [v2]]
theorem zero_176 (w : World) (S : Bs) : kT_176.own w S (⟨0, (⟨[], []⟩ : DFs)⟩ : RFs) [.int .i64 0, .slice none 0 0, .slice none 0 0] := kT_176_omk (⟨0, (⟨[], []⟩ : DFs)⟩ : RFs) (⟨fun _ => False, fun _ => False, own_nil _ _ none, ⟨fun _ => False, fun _ => False, own_nil _ _ none, trivial, fun _ h => h.elim, fun _ h => h.elim, fun _ h => h.elim⟩, fun _ h => h.elim, fun _ h => h.elim, fun _ h => h.elim⟩)
def PA_176 (g e s : Nat) (post : List Value) (x : RFs) (r : Value) (l : List Asn) : Prop := ∃ v1 v2, r = .tuple #[] ∧ l = [rowA g e s 1 ((.int .i64 x.code) :: v1 :: v2 :: post), ownA kSl_55 x.fs.inodes [v1], ownA kSl_41 x.fs.data [v2]]
def kT_178 : Kd RBytes := kiso (kpair (kint .i64) kSl_5) (fun x => (x.code, x.bytes))
theorem sz_178 : (Tryz.prog.info? 178).map (·.size) = some 2 := by kernel_rfl
theorem z_178 : (Tryz.prog.info? 178).map (·.zero) = some (some (.agg #[.int .i64 0, .slice none 0 0])) := by kernel_rfl
theorem ag_178 : AggIs Tryz.prog 178 true := by unfold AggIs; kernel_rfl
theorem bl_178 : BuildOk Tryz.prog 178 (.agg #[.int .i64 0, .slice none 0 0]) #[(0, 1), (1, 1)] := ⟨by kernel_rfl, by kernel_rfl, fun w => by kernel_rfl⟩
theorem fa_178_0 (ad : Addr) (w : World) : (Instr.fieldAt 178 (.pointer (some ad)) 0).run Tryz.prog w = .ok (.pointer (some (ad.add 0))) w := by kernel_rfl
theorem fa_178_1 (ad : Addr) (w : World) : (Instr.fieldAt 178 (.pointer (some ad)) 1).run Tryz.prog w = .ok (.pointer (some (ad.add 1))) w := by kernel_rfl
theorem kT_178_ro {w : World} {F : Bs} {x : RBytes} {cs : List Value} (h : kT_178.ro w F x cs) : ∃ v1, cs = [.int .i64 x.code, v1] ∧ kSl_5.ro w F x.bytes [v1] := by
  obtain ⟨_, _, rfl, ⟨rfl, -⟩, h1⟩ := h
  obtain ⟨v1, rfl⟩ := sl_one h1
  exact ⟨v1, rfl, h1⟩
theorem kT_178_mk {w : World} {F : Bs} (x : RBytes) {v1 : Value} (h1 : kSl_5.ro w F x.bytes [v1]) : kT_178.ro w F x [.int .i64 x.code, v1] :=
  ⟨_, _, rfl, ⟨rfl, trivial⟩, h1⟩
theorem kT_178_own {w : World} {S : Bs} {x : RBytes} {cs : List Value} (h : kT_178.own w S x cs) : ∃ v1, cs = [.int .i64 x.code, v1] ∧ Star [ownA kSl_5 x.bytes [v1]] w S := by
  obtain ⟨_, _, rfl, a0⟩ := h
  obtain ⟨p0, q0, b0, c0, i0, j0, k0⟩ := star2 a0
  obtain ⟨rfl, -⟩ := b0
  obtain ⟨v1, rfl⟩ := osl_one c0
  have g1 := Star.one (c := ownA kSl_5 x.bytes [v1]) c0
  have g2 := g1.up j0
  exact ⟨v1, rfl, g2⟩
theorem kT_178_op {x : RBytes} {cs : List Value} (w : World) (S : Bs) (h : Star [ownA kT_178 x cs] w S) : ∃ g : Value, cs = [.int .i64 x.code, g] ∧ Star [ownA kSl_5 x.bytes [g]] w S := by
  obtain ⟨v1, h1, h2⟩ := kT_178_own (show kT_178.own w S x cs from h.head (c := ownA kT_178 x cs))
  exact ⟨(v1), h1, h2⟩
theorem kT_178_omk {w : World} {S : Bs} (x : RBytes) {v1 : Value} (h : Star [ownA kSl_5 x.bytes [v1]] w S) : kT_178.own w S x [.int .i64 x.code, v1] := by
  have m1 : Mk (kint .i64) x.code [.int .i64 x.code] [] := mk_int
  have m2 : Mk kSl_5 x.bytes [v1] [ownA kSl_5 x.bytes [v1]] := mk_leaf
  have m3 : Mk (kpair (kint .i64) kSl_5) (x.code, x.bytes) ([.int .i64 x.code] ++ [v1]) ([] ++ [ownA kSl_5 x.bytes [v1]]) := mk_pair m1 m2
  have m0 : Mk kT_178 x ([.int .i64 x.code] ++ [v1]) ([] ++ [ownA kSl_5 x.bytes [v1]]) := m3
  exact m0 w S h
def RA_178 (x : RBytes) (r : Value) (l : List Asn) : Prop := ∃ v1, r = .agg #[.int .i64 x.code, v1] ∧ l = [ownA kSl_5 x.bytes [v1]]
theorem zero_178 (w : World) (S : Bs) : kT_178.own w S (⟨0, []⟩ : RBytes) [.int .i64 0, .slice none 0 0] := kT_178_omk (⟨0, []⟩ : RBytes) (⟨fun _ => False, fun _ => False, own_nil _ _ none, trivial, fun _ h => h.elim, fun _ h => h.elim, fun _ h => h.elim⟩)
def PA_178 (g e s : Nat) (post : List Value) (x : RBytes) (r : Value) (l : List Asn) : Prop := ∃ v1, r = .tuple #[] ∧ l = [rowA g e s 1 ((.int .i64 x.code) :: v1 :: post), ownA kSl_5 x.bytes [v1]]
theorem u_202 : Tryz.prog.underlying 202 = some (.int .i64) := by kernel_rfl
theorem sz_202 : (Tryz.prog.info? 202).map (·.size) = some 1 := by kernel_rfl
theorem z_202 : (Tryz.prog.info? 202).map (·.zero) = some (some (.int .i64 0)) := by kernel_rfl
theorem ag_202 : AggIs Tryz.prog 202 false := by unfold AggIs; kernel_rfl
theorem u_211 : Tryz.prog.underlying 211 = some (.int .u32) := by kernel_rfl
theorem sz_211 : (Tryz.prog.info? 211).map (·.size) = some 1 := by kernel_rfl
theorem z_211 : (Tryz.prog.info? 211).map (·.zero) = some (some (.int .u32 0)) := by kernel_rfl
theorem ag_211 : AggIs Tryz.prog 211 false := by unfold AggIs; kernel_rfl
theorem u_213 : Tryz.prog.underlying 213 = some (.int .u64) := by kernel_rfl
theorem sz_213 : (Tryz.prog.info? 213).map (·.size) = some 1 := by kernel_rfl
theorem z_213 : (Tryz.prog.info? 213).map (·.zero) = some (some (.int .u64 0)) := by kernel_rfl
theorem ag_213 : AggIs Tryz.prog 213 false := by unfold AggIs; kernel_rfl
theorem u_226 : Tryz.prog.underlying 226 = some (.int .u64) := by kernel_rfl
theorem sz_226 : (Tryz.prog.info? 226).map (·.size) = some 1 := by kernel_rfl
theorem z_226 : (Tryz.prog.info? 226).map (·.zero) = some (some (.int .u64 0)) := by kernel_rfl
theorem ag_226 : AggIs Tryz.prog 226 false := by unfold AggIs; kernel_rfl
def kT_233 : Kd RInts := kiso (kpair (kint .i64) kSl_2) (fun x => (x.code, x.list))
theorem sz_233 : (Tryz.prog.info? 233).map (·.size) = some 2 := by kernel_rfl
theorem z_233 : (Tryz.prog.info? 233).map (·.zero) = some (some (.agg #[.int .i64 0, .slice none 0 0])) := by kernel_rfl
theorem ag_233 : AggIs Tryz.prog 233 true := by unfold AggIs; kernel_rfl
theorem bl_233 : BuildOk Tryz.prog 233 (.agg #[.int .i64 0, .slice none 0 0]) #[(0, 1), (1, 1)] := ⟨by kernel_rfl, by kernel_rfl, fun w => by kernel_rfl⟩
theorem fa_233_0 (ad : Addr) (w : World) : (Instr.fieldAt 233 (.pointer (some ad)) 0).run Tryz.prog w = .ok (.pointer (some (ad.add 0))) w := by kernel_rfl
theorem fa_233_1 (ad : Addr) (w : World) : (Instr.fieldAt 233 (.pointer (some ad)) 1).run Tryz.prog w = .ok (.pointer (some (ad.add 1))) w := by kernel_rfl
theorem kT_233_ro {w : World} {F : Bs} {x : RInts} {cs : List Value} (h : kT_233.ro w F x cs) : ∃ v1, cs = [.int .i64 x.code, v1] ∧ kSl_2.ro w F x.list [v1] := by
  obtain ⟨_, _, rfl, ⟨rfl, -⟩, h1⟩ := h
  obtain ⟨v1, rfl⟩ := sl_one h1
  exact ⟨v1, rfl, h1⟩
theorem kT_233_mk {w : World} {F : Bs} (x : RInts) {v1 : Value} (h1 : kSl_2.ro w F x.list [v1]) : kT_233.ro w F x [.int .i64 x.code, v1] :=
  ⟨_, _, rfl, ⟨rfl, trivial⟩, h1⟩
theorem kT_233_own {w : World} {S : Bs} {x : RInts} {cs : List Value} (h : kT_233.own w S x cs) : ∃ v1, cs = [.int .i64 x.code, v1] ∧ Star [ownA kSl_2 x.list [v1]] w S := by
  obtain ⟨_, _, rfl, a0⟩ := h
  obtain ⟨p0, q0, b0, c0, i0, j0, k0⟩ := star2 a0
  obtain ⟨rfl, -⟩ := b0
  obtain ⟨v1, rfl⟩ := osl_one c0
  have g1 := Star.one (c := ownA kSl_2 x.list [v1]) c0
  have g2 := g1.up j0
  exact ⟨v1, rfl, g2⟩
theorem kT_233_op {x : RInts} {cs : List Value} (w : World) (S : Bs) (h : Star [ownA kT_233 x cs] w S) : ∃ g : Value, cs = [.int .i64 x.code, g] ∧ Star [ownA kSl_2 x.list [g]] w S := by
  obtain ⟨v1, h1, h2⟩ := kT_233_own (show kT_233.own w S x cs from h.head (c := ownA kT_233 x cs))
  exact ⟨(v1), h1, h2⟩
theorem kT_233_omk {w : World} {S : Bs} (x : RInts) {v1 : Value} (h : Star [ownA kSl_2 x.list [v1]] w S) : kT_233.own w S x [.int .i64 x.code, v1] := by
  have m1 : Mk (kint .i64) x.code [.int .i64 x.code] [] := mk_int
  have m2 : Mk kSl_2 x.list [v1] [ownA kSl_2 x.list [v1]] := mk_leaf
  have m3 : Mk (kpair (kint .i64) kSl_2) (x.code, x.list) ([.int .i64 x.code] ++ [v1]) ([] ++ [ownA kSl_2 x.list [v1]]) := mk_pair m1 m2
  have m0 : Mk kT_233 x ([.int .i64 x.code] ++ [v1]) ([] ++ [ownA kSl_2 x.list [v1]]) := m3
  exact m0 w S h
def RA_233 (x : RInts) (r : Value) (l : List Asn) : Prop := ∃ v1, r = .agg #[.int .i64 x.code, v1] ∧ l = [ownA kSl_2 x.list [v1]]
theorem zero_233 (w : World) (S : Bs) : kT_233.own w S (⟨0, []⟩ : RInts) [.int .i64 0, .slice none 0 0] := kT_233_omk (⟨0, []⟩ : RInts) (⟨fun _ => False, fun _ => False, own_nil _ _ none, trivial, fun _ h => h.elim, fun _ h => h.elim, fun _ h => h.elim⟩)
def PA_233 (g e s : Nat) (post : List Value) (x : RInts) (r : Value) (l : List Asn) : Prop := ∃ v1, r = .tuple #[] ∧ l = [rowA g e s 1 ((.int .i64 x.code) :: v1 :: post), ownA kSl_2 x.list [v1]]
end Go.Proofs.YticaddophhggoaaGreatDoor

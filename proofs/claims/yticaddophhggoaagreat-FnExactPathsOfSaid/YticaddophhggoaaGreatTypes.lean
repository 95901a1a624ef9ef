/- What is proved: the kinds of this program's types, laid open and put together; facts on its types. No condition. -/
import Derived.Test.YticaddophhggoaaGreatProg
import Derived.Test.YticaddophhggoaaGreatBase0
import Derived.Test.YticaddophhggoaaGreatBase1
namespace Go.Proofs.YticaddophhggoaaGreat
open Go Go.RowKit
set_option maxRecDepth 100000
set_option linter.unusedVariables false
set_option linter.unusedSimpArgs false
theorem u_2 : Tryz.prog.underlying 2 = some (.int .i64) := by kernel_rfl
theorem sz_2 : (Tryz.prog.info? 2).map (·.size) = some 1 := by kernel_rfl
theorem z_2 : (Tryz.prog.info? 2).map (·.zero) = some (some (.int .i64 0)) := by kernel_rfl
theorem ag_2 : AggIs Tryz.prog 2 false := by unfold AggIs; kernel_rfl
theorem u_3 : Tryz.prog.underlying 3 = some (.int .i64) := by kernel_rfl
theorem sz_3 : (Tryz.prog.info? 3).map (·.size) = some 1 := by kernel_rfl
theorem z_3 : (Tryz.prog.info? 3).map (·.zero) = some (some (.int .i64 0)) := by kernel_rfl
theorem ag_3 : AggIs Tryz.prog 3 false := by unfold AggIs; kernel_rfl
theorem u_4 : Tryz.prog.underlying 4 = some .bool := by kernel_rfl
theorem sz_4 : (Tryz.prog.info? 4).map (·.size) = some 1 := by kernel_rfl
theorem z_4 : (Tryz.prog.info? 4).map (·.zero) = some (some (.bool false)) := by kernel_rfl
theorem ag_4 : AggIs Tryz.prog 4 false := by unfold AggIs; kernel_rfl
theorem u_5 : Tryz.prog.underlying 5 = some (.int .u8) := by kernel_rfl
theorem sz_5 : (Tryz.prog.info? 5).map (·.size) = some 1 := by kernel_rfl
theorem z_5 : (Tryz.prog.info? 5).map (·.zero) = some (some (.int .u8 0)) := by kernel_rfl
theorem ag_5 : AggIs Tryz.prog 5 false := by unfold AggIs; kernel_rfl
theorem u_9 : Tryz.prog.underlying 9 = some .string := by kernel_rfl
theorem sz_9 : (Tryz.prog.info? 9).map (·.size) = some 1 := by kernel_rfl
theorem z_9 : (Tryz.prog.info? 9).map (·.zero) = some (some (.string ⟨#[]⟩)) := by kernel_rfl
theorem ag_9 : AggIs Tryz.prog 9 false := by unfold AggIs; kernel_rfl
abbrev kSl_2 : Kd (List Int) := kslice 2 8 (kint .i64)
theorem u_27 : Tryz.prog.underlying 27 = some (.slice 2) := by kernel_rfl
theorem ag_27 : AggIs Tryz.prog 27 false := by unfold AggIs; kernel_rfl
theorem z_27 : (Tryz.prog.info? 27).map (·.zero) = some (some (.slice none 0 0)) := by kernel_rfl
theorem sz_27 : (Tryz.prog.info? 27).map (·.size) = some 1 := by kernel_rfl
theorem inf_2 : (Tryz.prog.info? 2).map (fun i => (i.size, i.bytes, i.zero)) = some ((kint .i64).sz, 8, some (.int .i64 0)) := by kernel_rfl
def kT_198 : Kd DEnt := kiso (kpair kstr (kint .i64)) (fun x => (x.name, x.ino))
theorem sz_198 : (Tryz.prog.info? 198).map (·.size) = some 2 := by kernel_rfl
theorem z_198 : (Tryz.prog.info? 198).map (·.zero) = some (some (.agg #[.string ⟨#[]⟩, .int .i64 0])) := by kernel_rfl
theorem ag_198 : AggIs Tryz.prog 198 true := by unfold AggIs; kernel_rfl
theorem bl_198 : BuildOk Tryz.prog 198 (.agg #[.string ⟨#[]⟩, .int .i64 0]) #[(0, 1), (1, 1)] := ⟨by kernel_rfl, by kernel_rfl, fun w => by kernel_rfl⟩
theorem fa_198_0 (ad : Addr) (w : World) : (Instr.fieldAt 198 (.pointer (some ad)) 0).run Tryz.prog w = .ok (.pointer (some (ad.add 0))) w := by kernel_rfl
theorem fa_198_1 (ad : Addr) (w : World) : (Instr.fieldAt 198 (.pointer (some ad)) 1).run Tryz.prog w = .ok (.pointer (some (ad.add 1))) w := by kernel_rfl
theorem ent_gd_198 : Tryz.prog.eqGuardType Tryz.prog.depth 198 = false := by kernel_rfl
theorem ent_eq_198 (x y : DEnt) (w : World) : (Op.equalIn 10000 198 (.agg #[.string x.name, .int .i64 x.ino]) (.agg #[.string y.name, .int .i64 y.ino])).run Tryz.prog w = .ok (decide (x = y)) w := by
  rw [run_equalIn_struct w 9999 198 _ _ (by kernel_rfl) (by kernel_rfl)]
  rw [show (Tryz.prog.fieldsOf 198).toList = [(Tryz.prog.fieldsOf 198)[0]!, (Tryz.prog.fieldsOf 198)[1]!] by kernel_rfl]
  refine ((eqFs_cons (a := .string x.name) (b := .string y.name) (by kernel_rfl) (fun w => by kernel_rfl) (fun w => by kernel_rfl) (fun w => run_equalIn_string w 9998 _ x.name y.name (by kernel_rfl)) (eqFs_cons (a := .int .i64 x.ino) (b := .int .i64 y.ino) (by kernel_rfl) (fun w => by kernel_rfl) (fun w => by kernel_rfl) (fun w => run_equalIn_int w 9998 _ .i64 .i64 x.ino y.ino (by kernel_rfl)) eqFs_nil)) w).trans ?_
  congr 1; cases x; cases y; simp only [beq_str, beq_int, Bool.and_true, DEnt.mk.injEq, Bool.decide_and]
theorem kT_198_ro {w : World} {F : Bs} {x : DEnt} {cs : List Value} (h : kT_198.ro w F x cs) : cs = [.string x.name, .int .i64 x.ino] ∧ x.name.size ≤ 140737488351232 := by
  obtain ⟨_, _, rfl, ⟨rfl, s0⟩, ⟨rfl, -⟩⟩ := h
  exact ⟨rfl, s0⟩
theorem kT_198_mk {w : World} {F : Bs} (x : DEnt) (s0 : x.name.size ≤ 140737488351232) : kT_198.ro w F x [.string x.name, .int .i64 x.ino] :=
  ⟨_, _, rfl, ⟨rfl, s0⟩, ⟨rfl, trivial⟩⟩
theorem kT_198_own {w : World} {S : Bs} {x : DEnt} {cs : List Value} (h : kT_198.own w S x cs) : cs = [.string x.name, .int .i64 x.ino] ∧ Star [] w S ∧ x.name.size ≤ 140737488351232 := by
  obtain ⟨_, _, rfl, a0⟩ := h
  obtain ⟨p0, q0, b0, c0, i0, j0, k0⟩ := star2 a0
  obtain ⟨rfl, s0⟩ := b0
  obtain ⟨rfl, -⟩ := c0
  exact ⟨rfl, trivial, s0⟩
theorem kT_198_op {x : DEnt} {cs : List Value} (w : World) (S : Bs) (h : Star [ownA kT_198 x cs] w S) : ∃ g : Unit, (cs = [.string x.name, .int .i64 x.ino] ∧ x.name.size ≤ 140737488351232) ∧ Star [] w S := by
  obtain ⟨h1, h2, s0⟩ := kT_198_own (show kT_198.own w S x cs from h.head (c := ownA kT_198 x cs))
  exact ⟨(), ⟨h1, s0⟩, h2⟩
theorem kT_198_omk {w : World} {S : Bs} (x : DEnt) (h : Star [] w S) (s0 : x.name.size ≤ 140737488351232) : kT_198.own w S x [.string x.name, .int .i64 x.ino] := by
  have m1 : Mk kstr x.name [.string x.name] [] := (mk_str s0)
  have m2 : Mk (kint .i64) x.ino [.int .i64 x.ino] [] := mk_int
  have m3 : Mk (kpair kstr (kint .i64)) (x.name, x.ino) ([.string x.name] ++ [.int .i64 x.ino]) ([] ++ []) := mk_pair m1 m2
  have m0 : Mk kT_198 x ([.string x.name] ++ [.int .i64 x.ino]) ([] ++ []) := m3
  exact m0 w S h
def RA_198 (x : DEnt) (r : Value) (l : List Asn) : Prop := r = .agg #[.string x.name, .int .i64 x.ino] ∧ l = [] ∧ x.name.size ≤ 140737488351232
theorem zero_198 (w : World) (S : Bs) : kT_198.own w S (⟨⟨#[]⟩, 0⟩ : DEnt) [.string ⟨#[]⟩, .int .i64 0] := kT_198_omk (⟨⟨#[]⟩, 0⟩ : DEnt) (trivial) (by decide)
def PA_198 (g e s : Nat) (post : List Value) (x : DEnt) (r : Value) (l : List Asn) : Prop := r = .tuple #[] ∧ l = [rowA g e s 1 ((.string x.name) :: (.int .i64 x.ino) :: post)] ∧ x.name.size ≤ 140737488351232
abbrev kSl_198 : Kd (List DEnt) := kslice 198 24 kT_198
theorem u_137 : Tryz.prog.underlying 137 = some (.slice 198) := by kernel_rfl
theorem ag_137 : AggIs Tryz.prog 137 false := by unfold AggIs; kernel_rfl
theorem z_137 : (Tryz.prog.info? 137).map (·.zero) = some (some (.slice none 0 0)) := by kernel_rfl
theorem sz_137 : (Tryz.prog.info? 137).map (·.size) = some 1 := by kernel_rfl
theorem inf_198 : (Tryz.prog.info? 198).map (fun i => (i.size, i.bytes, i.zero)) = some (kT_198.sz, 24, some (.agg #[.string ⟨#[]⟩, .int .i64 0])) := by kernel_rfl
def kT_139 : Kd DInode := kiso (kpair (kint .i64) (kpair (kint .i64) (kpair (kint .i64) (kpair kSl_2 kSl_198)))) (fun x => (x.kind, x.links, x.size, x.blocks, x.ents))
theorem sz_139 : (Tryz.prog.info? 139).map (·.size) = some 5 := by kernel_rfl
theorem z_139 : (Tryz.prog.info? 139).map (·.zero) = some (some (.agg #[.int .i64 0, .int .i64 0, .int .i64 0, .slice none 0 0, .slice none 0 0])) := by kernel_rfl
theorem ag_139 : AggIs Tryz.prog 139 true := by unfold AggIs; kernel_rfl
theorem bl_139 : BuildOk Tryz.prog 139 (.agg #[.int .i64 0, .int .i64 0, .int .i64 0, .slice none 0 0, .slice none 0 0]) #[(0, 1), (1, 1), (2, 1), (3, 1), (4, 1)] := ⟨by kernel_rfl, by kernel_rfl, fun w => by kernel_rfl⟩
theorem fa_139_0 (ad : Addr) (w : World) : (Instr.fieldAt 139 (.pointer (some ad)) 0).run Tryz.prog w = .ok (.pointer (some (ad.add 0))) w := by kernel_rfl
theorem fa_139_1 (ad : Addr) (w : World) : (Instr.fieldAt 139 (.pointer (some ad)) 1).run Tryz.prog w = .ok (.pointer (some (ad.add 1))) w := by kernel_rfl
theorem fa_139_2 (ad : Addr) (w : World) : (Instr.fieldAt 139 (.pointer (some ad)) 2).run Tryz.prog w = .ok (.pointer (some (ad.add 2))) w := by kernel_rfl
theorem fa_139_3 (ad : Addr) (w : World) : (Instr.fieldAt 139 (.pointer (some ad)) 3).run Tryz.prog w = .ok (.pointer (some (ad.add 3))) w := by kernel_rfl
theorem fa_139_4 (ad : Addr) (w : World) : (Instr.fieldAt 139 (.pointer (some ad)) 4).run Tryz.prog w = .ok (.pointer (some (ad.add 4))) w := by kernel_rfl
theorem kT_139_ro {w : World} {F : Bs} {x : DInode} {cs : List Value} (h : kT_139.ro w F x cs) : ∃ v3 v4, cs = [.int .i64 x.kind, .int .i64 x.links, .int .i64 x.size, v3, v4] ∧ kSl_2.ro w F x.blocks [v3] ∧ kSl_198.ro w F x.ents [v4] := by
  obtain ⟨_, _, rfl, ⟨rfl, -⟩, ⟨_, _, rfl, ⟨rfl, -⟩, ⟨_, _, rfl, ⟨rfl, -⟩, ⟨_, _, rfl, h3, h4⟩⟩⟩⟩ := h
  obtain ⟨v3, rfl⟩ := sl_one h3
  obtain ⟨v4, rfl⟩ := sl_one h4
  exact ⟨v3, v4, rfl, h3, h4⟩
theorem kT_139_mk {w : World} {F : Bs} (x : DInode) {v3 : Value} {v4 : Value} (h3 : kSl_2.ro w F x.blocks [v3]) (h4 : kSl_198.ro w F x.ents [v4]) : kT_139.ro w F x [.int .i64 x.kind, .int .i64 x.links, .int .i64 x.size, v3, v4] :=
  ⟨_, _, rfl, ⟨rfl, trivial⟩, ⟨_, _, rfl, ⟨rfl, trivial⟩, ⟨_, _, rfl, ⟨rfl, trivial⟩, ⟨_, _, rfl, h3, h4⟩⟩⟩⟩
theorem kT_139_own {w : World} {S : Bs} {x : DInode} {cs : List Value} (h : kT_139.own w S x cs) : ∃ v3 v4, cs = [.int .i64 x.kind, .int .i64 x.links, .int .i64 x.size, v3, v4] ∧ Star [ownA kSl_2 x.blocks [v3], ownA kSl_198 x.ents [v4]] w S := by
  obtain ⟨_, _, rfl, a0⟩ := h
  obtain ⟨p0, q0, b0, c0, i0, j0, k0⟩ := star2 a0
  obtain ⟨rfl, -⟩ := b0
  obtain ⟨_, _, rfl, a1⟩ := c0
  obtain ⟨p1, q1, b1, c1, i1, j1, k1⟩ := star2 a1
  obtain ⟨rfl, -⟩ := b1
  obtain ⟨_, _, rfl, a2⟩ := c1
  obtain ⟨p2, q2, b2, c2, i2, j2, k2⟩ := star2 a2
  obtain ⟨rfl, -⟩ := b2
  obtain ⟨_, _, rfl, a3⟩ := c2
  obtain ⟨p3, q3, b3, c3, i3, j3, k3⟩ := star2 a3
  obtain ⟨v3, rfl⟩ := osl_one b3
  have g4 := Star.one (c := ownA kSl_2 x.blocks [v3]) b3
  obtain ⟨v4, rfl⟩ := osl_one c3
  have g5 := Star.one (c := ownA kSl_198 x.ents [v4]) c3
  have g6 := g4.app g5 i3 j3 k3
  have g7 := g6.up j2
  have g8 := g7.up j1
  have g9 := g8.up j0
  exact ⟨v3, v4, rfl, g9⟩
theorem kT_139_op {x : DInode} {cs : List Value} (w : World) (S : Bs) (h : Star [ownA kT_139 x cs] w S) : ∃ g : Value × Value, cs = [.int .i64 x.kind, .int .i64 x.links, .int .i64 x.size, g.1, g.2] ∧ Star [ownA kSl_2 x.blocks [g.1], ownA kSl_198 x.ents [g.2]] w S := by
  obtain ⟨v3, v4, h1, h2⟩ := kT_139_own (show kT_139.own w S x cs from h.head (c := ownA kT_139 x cs))
  exact ⟨(v3, v4), h1, h2⟩
theorem kT_139_omk {w : World} {S : Bs} (x : DInode) {v3 : Value} {v4 : Value} (h : Star [ownA kSl_2 x.blocks [v3], ownA kSl_198 x.ents [v4]] w S) : kT_139.own w S x [.int .i64 x.kind, .int .i64 x.links, .int .i64 x.size, v3, v4] := by
  have m1 : Mk (kint .i64) x.kind [.int .i64 x.kind] [] := mk_int
  have m2 : Mk (kint .i64) x.links [.int .i64 x.links] [] := mk_int
  have m3 : Mk (kint .i64) x.size [.int .i64 x.size] [] := mk_int
  have m4 : Mk kSl_2 x.blocks [v3] [ownA kSl_2 x.blocks [v3]] := mk_leaf
  have m5 : Mk kSl_198 x.ents [v4] [ownA kSl_198 x.ents [v4]] := mk_leaf
  have m6 : Mk (kpair kSl_2 kSl_198) (x.blocks, x.ents) ([v3] ++ [v4]) ([ownA kSl_2 x.blocks [v3]] ++ [ownA kSl_198 x.ents [v4]]) := mk_pair m4 m5
  have m7 : Mk (kpair (kint .i64) (kpair kSl_2 kSl_198)) (x.size, (x.blocks, x.ents)) ([.int .i64 x.size] ++ ([v3] ++ [v4])) ([] ++ ([ownA kSl_2 x.blocks [v3]] ++ [ownA kSl_198 x.ents [v4]])) := mk_pair m3 m6
  have m8 : Mk (kpair (kint .i64) (kpair (kint .i64) (kpair kSl_2 kSl_198))) (x.links, (x.size, (x.blocks, x.ents))) ([.int .i64 x.links] ++ ([.int .i64 x.size] ++ ([v3] ++ [v4]))) ([] ++ ([] ++ ([ownA kSl_2 x.blocks [v3]] ++ [ownA kSl_198 x.ents [v4]]))) := mk_pair m2 m7
  have m9 : Mk (kpair (kint .i64) (kpair (kint .i64) (kpair (kint .i64) (kpair kSl_2 kSl_198)))) (x.kind, (x.links, (x.size, (x.blocks, x.ents)))) ([.int .i64 x.kind] ++ ([.int .i64 x.links] ++ ([.int .i64 x.size] ++ ([v3] ++ [v4])))) ([] ++ ([] ++ ([] ++ ([ownA kSl_2 x.blocks [v3]] ++ [ownA kSl_198 x.ents [v4]])))) := mk_pair m1 m8
  have m0 : Mk kT_139 x ([.int .i64 x.kind] ++ ([.int .i64 x.links] ++ ([.int .i64 x.size] ++ ([v3] ++ [v4])))) ([] ++ ([] ++ ([] ++ ([ownA kSl_2 x.blocks [v3]] ++ [ownA kSl_198 x.ents [v4]])))) := m9
  exact m0 w S h
def RA_139 (x : DInode) (r : Value) (l : List Asn) : Prop := ∃ v3 v4, r = .agg #[.int .i64 x.kind, .int .i64 x.links, .int .i64 x.size, v3, v4] ∧ l = [ownA kSl_2 x.blocks [v3], ownA kSl_198 x.ents [v4]]
theorem zero_139 (w : World) (S : Bs) : kT_139.own w S (⟨0, 0, 0, [], []⟩ : DInode) [.int .i64 0, .int .i64 0, .int .i64 0, .slice none 0 0, .slice none 0 0] := kT_139_omk (⟨0, 0, 0, [], []⟩ : DInode) (⟨fun _ => False, fun _ => False, own_nil _ _ none, ⟨fun _ => False, fun _ => False, own_nil _ _ none, trivial, fun _ h => h.elim, fun _ h => h.elim, fun _ h => h.elim⟩, fun _ h => h.elim, fun _ h => h.elim, fun _ h => h.elim⟩)
def PA_139 (g e s : Nat) (post : List Value) (x : DInode) (r : Value) (l : List Asn) : Prop := ∃ v3 v4, r = .tuple #[] ∧ l = [rowA g e s 1 ((.int .i64 x.kind) :: (.int .i64 x.links) :: (.int .i64 x.size) :: v3 :: v4 :: post), ownA kSl_2 x.blocks [v3], ownA kSl_198 x.ents [v4]]
abbrev kSl_139 : Kd (List DInode) := kslice 139 72 kT_139
theorem u_22 : Tryz.prog.underlying 22 = some (.slice 139) := by kernel_rfl
theorem ag_22 : AggIs Tryz.prog 22 false := by unfold AggIs; kernel_rfl
theorem z_22 : (Tryz.prog.info? 22).map (·.zero) = some (some (.slice none 0 0)) := by kernel_rfl
theorem sz_22 : (Tryz.prog.info? 22).map (·.size) = some 1 := by kernel_rfl
theorem inf_139 : (Tryz.prog.info? 139).map (fun i => (i.size, i.bytes, i.zero)) = some (kT_139.sz, 72, some (.agg #[.int .i64 0, .int .i64 0, .int .i64 0, .slice none 0 0, .slice none 0 0])) := by kernel_rfl
abbrev kSl_5 : Kd (List UInt8) := kslice 5 1 kbyte
theorem u_26 : Tryz.prog.underlying 26 = some (.slice 5) := by kernel_rfl
theorem ag_26 : AggIs Tryz.prog 26 false := by unfold AggIs; kernel_rfl
theorem z_26 : (Tryz.prog.info? 26).map (·.zero) = some (some (.slice none 0 0)) := by kernel_rfl
theorem sz_26 : (Tryz.prog.info? 26).map (·.size) = some 1 := by kernel_rfl
theorem inf_5 : (Tryz.prog.info? 5).map (fun i => (i.size, i.bytes, i.zero)) = some (kbyte.sz, 1, some (.int .u8 0)) := by kernel_rfl
abbrev kSl_26 : Kd (List (List UInt8)) := kslice 26 24 kSl_5
theorem u_23 : Tryz.prog.underlying 23 = some (.slice 26) := by kernel_rfl
theorem ag_23 : AggIs Tryz.prog 23 false := by unfold AggIs; kernel_rfl
theorem z_23 : (Tryz.prog.info? 23).map (·.zero) = some (some (.slice none 0 0)) := by kernel_rfl
theorem sz_23 : (Tryz.prog.info? 23).map (·.size) = some 1 := by kernel_rfl
theorem inf_26 : (Tryz.prog.info? 26).map (fun i => (i.size, i.bytes, i.zero)) = some (kSl_5.sz, 24, some (.slice none 0 0)) := by kernel_rfl
def kT_25 : Kd DFs := kiso (kpair kSl_139 kSl_26) (fun x => (x.inodes, x.data))
theorem sz_25 : (Tryz.prog.info? 25).map (·.size) = some 2 := by kernel_rfl
theorem z_25 : (Tryz.prog.info? 25).map (·.zero) = some (some (.agg #[.slice none 0 0, .slice none 0 0])) := by kernel_rfl
theorem ag_25 : AggIs Tryz.prog 25 true := by unfold AggIs; kernel_rfl
theorem bl_25 : BuildOk Tryz.prog 25 (.agg #[.slice none 0 0, .slice none 0 0]) #[(0, 1), (1, 1)] := ⟨by kernel_rfl, by kernel_rfl, fun w => by kernel_rfl⟩
theorem fa_25_0 (ad : Addr) (w : World) : (Instr.fieldAt 25 (.pointer (some ad)) 0).run Tryz.prog w = .ok (.pointer (some (ad.add 0))) w := by kernel_rfl
theorem fa_25_1 (ad : Addr) (w : World) : (Instr.fieldAt 25 (.pointer (some ad)) 1).run Tryz.prog w = .ok (.pointer (some (ad.add 1))) w := by kernel_rfl
theorem kT_25_ro {w : World} {F : Bs} {x : DFs} {cs : List Value} (h : kT_25.ro w F x cs) : ∃ v0 v1, cs = [v0, v1] ∧ kSl_139.ro w F x.inodes [v0] ∧ kSl_26.ro w F x.data [v1] := by
  obtain ⟨_, _, rfl, h0, h1⟩ := h
  obtain ⟨v0, rfl⟩ := sl_one h0
  obtain ⟨v1, rfl⟩ := sl_one h1
  exact ⟨v0, v1, rfl, h0, h1⟩
theorem kT_25_mk {w : World} {F : Bs} (x : DFs) {v0 : Value} {v1 : Value} (h0 : kSl_139.ro w F x.inodes [v0]) (h1 : kSl_26.ro w F x.data [v1]) : kT_25.ro w F x [v0, v1] :=
  ⟨_, _, rfl, h0, h1⟩
theorem kT_25_own {w : World} {S : Bs} {x : DFs} {cs : List Value} (h : kT_25.own w S x cs) : ∃ v0 v1, cs = [v0, v1] ∧ Star [ownA kSl_139 x.inodes [v0], ownA kSl_26 x.data [v1]] w S := by
  obtain ⟨_, _, rfl, a0⟩ := h
  obtain ⟨p0, q0, b0, c0, i0, j0, k0⟩ := star2 a0
  obtain ⟨v0, rfl⟩ := osl_one b0
  have g1 := Star.one (c := ownA kSl_139 x.inodes [v0]) b0
  obtain ⟨v1, rfl⟩ := osl_one c0
  have g2 := Star.one (c := ownA kSl_26 x.data [v1]) c0
  have g3 := g1.app g2 i0 j0 k0
  exact ⟨v0, v1, rfl, g3⟩
theorem kT_25_op {x : DFs} {cs : List Value} (w : World) (S : Bs) (h : Star [ownA kT_25 x cs] w S) : ∃ g : Value × Value, cs = [g.1, g.2] ∧ Star [ownA kSl_139 x.inodes [g.1], ownA kSl_26 x.data [g.2]] w S := by
  obtain ⟨v0, v1, h1, h2⟩ := kT_25_own (show kT_25.own w S x cs from h.head (c := ownA kT_25 x cs))
  exact ⟨(v0, v1), h1, h2⟩
theorem kT_25_omk {w : World} {S : Bs} (x : DFs) {v0 : Value} {v1 : Value} (h : Star [ownA kSl_139 x.inodes [v0], ownA kSl_26 x.data [v1]] w S) : kT_25.own w S x [v0, v1] := by
  have m1 : Mk kSl_139 x.inodes [v0] [ownA kSl_139 x.inodes [v0]] := mk_leaf
  have m2 : Mk kSl_26 x.data [v1] [ownA kSl_26 x.data [v1]] := mk_leaf
  have m3 : Mk (kpair kSl_139 kSl_26) (x.inodes, x.data) ([v0] ++ [v1]) ([ownA kSl_139 x.inodes [v0]] ++ [ownA kSl_26 x.data [v1]]) := mk_pair m1 m2
  have m0 : Mk kT_25 x ([v0] ++ [v1]) ([ownA kSl_139 x.inodes [v0]] ++ [ownA kSl_26 x.data [v1]]) := m3
  exact m0 w S h
def RA_25 (x : DFs) (r : Value) (l : List Asn) : Prop := ∃ v0 v1, r = .agg #[v0, v1] ∧ l = [ownA kSl_139 x.inodes [v0], ownA kSl_26 x.data [v1]]
theorem zero_25 (w : World) (S : Bs) : kT_25.own w S (⟨[], []⟩ : DFs) [.slice none 0 0, .slice none 0 0] := kT_25_omk (⟨[], []⟩ : DFs) (⟨fun _ => False, fun _ => False, own_nil _ _ none, ⟨fun _ => False, fun _ => False, own_nil _ _ none, trivial, fun _ h => h.elim, fun _ h => h.elim, fun _ h => h.elim⟩, fun _ h => h.elim, fun _ h => h.elim, fun _ h => h.elim⟩)
def PA_25 (g e s : Nat) (post : List Value) (x : DFs) (r : Value) (l : List Asn) : Prop := ∃ v0 v1, r = .tuple #[] ∧ l = [rowA g e s 1 (v0 :: v1 :: post), ownA kSl_139 x.inodes [v0], ownA kSl_26 x.data [v1]]
def kT_151 : Kd DEnt := kiso (kpair kstr (kint .i64)) (fun x => (x.name, x.ino))
theorem sz_151 : (Tryz.prog.info? 151).map (·.size) = some 2 := by kernel_rfl
theorem z_151 : (Tryz.prog.info? 151).map (·.zero) = some (some (.agg #[.string ⟨#[]⟩, .int .i64 0])) := by kernel_rfl
theorem ag_151 : AggIs Tryz.prog 151 true := by unfold AggIs; kernel_rfl
theorem bl_151 : BuildOk Tryz.prog 151 (.agg #[.string ⟨#[]⟩, .int .i64 0]) #[(0, 1), (1, 1)] := ⟨by kernel_rfl, by kernel_rfl, fun w => by kernel_rfl⟩
theorem fa_151_0 (ad : Addr) (w : World) : (Instr.fieldAt 151 (.pointer (some ad)) 0).run Tryz.prog w = .ok (.pointer (some (ad.add 0))) w := by kernel_rfl
theorem fa_151_1 (ad : Addr) (w : World) : (Instr.fieldAt 151 (.pointer (some ad)) 1).run Tryz.prog w = .ok (.pointer (some (ad.add 1))) w := by kernel_rfl
theorem ent_gd_151 : Tryz.prog.eqGuardType Tryz.prog.depth 151 = false := by kernel_rfl
theorem ent_eq_151 (x y : DEnt) (w : World) : (Op.equalIn 10000 151 (.agg #[.string x.name, .int .i64 x.ino]) (.agg #[.string y.name, .int .i64 y.ino])).run Tryz.prog w = .ok (decide (x = y)) w := by
  rw [run_equalIn_struct w 9999 151 _ _ (by kernel_rfl) (by kernel_rfl)]
  rw [show (Tryz.prog.fieldsOf 151).toList = [(Tryz.prog.fieldsOf 151)[0]!, (Tryz.prog.fieldsOf 151)[1]!] by kernel_rfl]
  refine ((eqFs_cons (a := .string x.name) (b := .string y.name) (by kernel_rfl) (fun w => by kernel_rfl) (fun w => by kernel_rfl) (fun w => run_equalIn_string w 9998 _ x.name y.name (by kernel_rfl)) (eqFs_cons (a := .int .i64 x.ino) (b := .int .i64 y.ino) (by kernel_rfl) (fun w => by kernel_rfl) (fun w => by kernel_rfl) (fun w => run_equalIn_int w 9998 _ .i64 .i64 x.ino y.ino (by kernel_rfl)) eqFs_nil)) w).trans ?_
  congr 1; cases x; cases y; simp only [beq_str, beq_int, Bool.and_true, DEnt.mk.injEq, Bool.decide_and]
theorem kT_151_ro {w : World} {F : Bs} {x : DEnt} {cs : List Value} (h : kT_151.ro w F x cs) : cs = [.string x.name, .int .i64 x.ino] ∧ x.name.size ≤ 140737488351232 := by
  obtain ⟨_, _, rfl, ⟨rfl, s0⟩, ⟨rfl, -⟩⟩ := h
  exact ⟨rfl, s0⟩
theorem kT_151_mk {w : World} {F : Bs} (x : DEnt) (s0 : x.name.size ≤ 140737488351232) : kT_151.ro w F x [.string x.name, .int .i64 x.ino] :=
  ⟨_, _, rfl, ⟨rfl, s0⟩, ⟨rfl, trivial⟩⟩
theorem kT_151_own {w : World} {S : Bs} {x : DEnt} {cs : List Value} (h : kT_151.own w S x cs) : cs = [.string x.name, .int .i64 x.ino] ∧ Star [] w S ∧ x.name.size ≤ 140737488351232 := by
  obtain ⟨_, _, rfl, a0⟩ := h
  obtain ⟨p0, q0, b0, c0, i0, j0, k0⟩ := star2 a0
  obtain ⟨rfl, s0⟩ := b0
  obtain ⟨rfl, -⟩ := c0
  exact ⟨rfl, trivial, s0⟩
theorem kT_151_op {x : DEnt} {cs : List Value} (w : World) (S : Bs) (h : Star [ownA kT_151 x cs] w S) : ∃ g : Unit, (cs = [.string x.name, .int .i64 x.ino] ∧ x.name.size ≤ 140737488351232) ∧ Star [] w S := by
  obtain ⟨h1, h2, s0⟩ := kT_151_own (show kT_151.own w S x cs from h.head (c := ownA kT_151 x cs))
  exact ⟨(), ⟨h1, s0⟩, h2⟩
theorem kT_151_omk {w : World} {S : Bs} (x : DEnt) (h : Star [] w S) (s0 : x.name.size ≤ 140737488351232) : kT_151.own w S x [.string x.name, .int .i64 x.ino] := by
  have m1 : Mk kstr x.name [.string x.name] [] := (mk_str s0)
  have m2 : Mk (kint .i64) x.ino [.int .i64 x.ino] [] := mk_int
  have m3 : Mk (kpair kstr (kint .i64)) (x.name, x.ino) ([.string x.name] ++ [.int .i64 x.ino]) ([] ++ []) := mk_pair m1 m2
  have m0 : Mk kT_151 x ([.string x.name] ++ [.int .i64 x.ino]) ([] ++ []) := m3
  exact m0 w S h
def RA_151 (x : DEnt) (r : Value) (l : List Asn) : Prop := r = .agg #[.string x.name, .int .i64 x.ino] ∧ l = [] ∧ x.name.size ≤ 140737488351232
theorem zero_151 (w : World) (S : Bs) : kT_151.own w S (⟨⟨#[]⟩, 0⟩ : DEnt) [.string ⟨#[]⟩, .int .i64 0] := kT_151_omk (⟨⟨#[]⟩, 0⟩ : DEnt) (trivial) (by decide)
def PA_151 (g e s : Nat) (post : List Value) (x : DEnt) (r : Value) (l : List Asn) : Prop := r = .tuple #[] ∧ l = [rowA g e s 1 ((.string x.name) :: (.int .i64 x.ino) :: post)] ∧ x.name.size ≤ 140737488351232
abbrev kSl_151 : Kd (List DEnt) := kslice 151 24 kT_151
theorem u_71 : Tryz.prog.underlying 71 = some (.slice 151) := by kernel_rfl
theorem ag_71 : AggIs Tryz.prog 71 false := by unfold AggIs; kernel_rfl
theorem z_71 : (Tryz.prog.info? 71).map (·.zero) = some (some (.slice none 0 0)) := by kernel_rfl
theorem sz_71 : (Tryz.prog.info? 71).map (·.size) = some 1 := by kernel_rfl
theorem inf_151 : (Tryz.prog.info? 151).map (fun i => (i.size, i.bytes, i.zero)) = some (kT_151.sz, 24, some (.agg #[.string ⟨#[]⟩, .int .i64 0])) := by kernel_rfl
def kT_73 : Kd DInode := kiso (kpair (kint .i64) (kpair (kint .i64) (kpair (kint .i64) (kpair kSl_2 kSl_151)))) (fun x => (x.kind, x.links, x.size, x.blocks, x.ents))
theorem sz_73 : (Tryz.prog.info? 73).map (·.size) = some 5 := by kernel_rfl
theorem z_73 : (Tryz.prog.info? 73).map (·.zero) = some (some (.agg #[.int .i64 0, .int .i64 0, .int .i64 0, .slice none 0 0, .slice none 0 0])) := by kernel_rfl
theorem ag_73 : AggIs Tryz.prog 73 true := by unfold AggIs; kernel_rfl
theorem bl_73 : BuildOk Tryz.prog 73 (.agg #[.int .i64 0, .int .i64 0, .int .i64 0, .slice none 0 0, .slice none 0 0]) #[(0, 1), (1, 1), (2, 1), (3, 1), (4, 1)] := ⟨by kernel_rfl, by kernel_rfl, fun w => by kernel_rfl⟩
theorem fa_73_0 (ad : Addr) (w : World) : (Instr.fieldAt 73 (.pointer (some ad)) 0).run Tryz.prog w = .ok (.pointer (some (ad.add 0))) w := by kernel_rfl
theorem fa_73_1 (ad : Addr) (w : World) : (Instr.fieldAt 73 (.pointer (some ad)) 1).run Tryz.prog w = .ok (.pointer (some (ad.add 1))) w := by kernel_rfl
theorem fa_73_2 (ad : Addr) (w : World) : (Instr.fieldAt 73 (.pointer (some ad)) 2).run Tryz.prog w = .ok (.pointer (some (ad.add 2))) w := by kernel_rfl
theorem fa_73_3 (ad : Addr) (w : World) : (Instr.fieldAt 73 (.pointer (some ad)) 3).run Tryz.prog w = .ok (.pointer (some (ad.add 3))) w := by kernel_rfl
theorem fa_73_4 (ad : Addr) (w : World) : (Instr.fieldAt 73 (.pointer (some ad)) 4).run Tryz.prog w = .ok (.pointer (some (ad.add 4))) w := by kernel_rfl
theorem kT_73_ro {w : World} {F : Bs} {x : DInode} {cs : List Value} (h : kT_73.ro w F x cs) : ∃ v3 v4, cs = [.int .i64 x.kind, .int .i64 x.links, .int .i64 x.size, v3, v4] ∧ kSl_2.ro w F x.blocks [v3] ∧ kSl_151.ro w F x.ents [v4] := by
  obtain ⟨_, _, rfl, ⟨rfl, -⟩, ⟨_, _, rfl, ⟨rfl, -⟩, ⟨_, _, rfl, ⟨rfl, -⟩, ⟨_, _, rfl, h3, h4⟩⟩⟩⟩ := h
  obtain ⟨v3, rfl⟩ := sl_one h3
  obtain ⟨v4, rfl⟩ := sl_one h4
  exact ⟨v3, v4, rfl, h3, h4⟩
theorem kT_73_mk {w : World} {F : Bs} (x : DInode) {v3 : Value} {v4 : Value} (h3 : kSl_2.ro w F x.blocks [v3]) (h4 : kSl_151.ro w F x.ents [v4]) : kT_73.ro w F x [.int .i64 x.kind, .int .i64 x.links, .int .i64 x.size, v3, v4] :=
  ⟨_, _, rfl, ⟨rfl, trivial⟩, ⟨_, _, rfl, ⟨rfl, trivial⟩, ⟨_, _, rfl, ⟨rfl, trivial⟩, ⟨_, _, rfl, h3, h4⟩⟩⟩⟩
theorem kT_73_own {w : World} {S : Bs} {x : DInode} {cs : List Value} (h : kT_73.own w S x cs) : ∃ v3 v4, cs = [.int .i64 x.kind, .int .i64 x.links, .int .i64 x.size, v3, v4] ∧ Star [ownA kSl_2 x.blocks [v3], ownA kSl_151 x.ents [v4]] w S := by
  obtain ⟨_, _, rfl, a0⟩ := h
  obtain ⟨p0, q0, b0, c0, i0, j0, k0⟩ := star2 a0
  obtain ⟨rfl, -⟩ := b0
  obtain ⟨_, _, rfl, a1⟩ := c0
  obtain ⟨p1, q1, b1, c1, i1, j1, k1⟩ := star2 a1
  obtain ⟨rfl, -⟩ := b1
  obtain ⟨_, _, rfl, a2⟩ := c1
  obtain ⟨p2, q2, b2, c2, i2, j2, k2⟩ := star2 a2
  obtain ⟨rfl, -⟩ := b2
  obtain ⟨_, _, rfl, a3⟩ := c2
  obtain ⟨p3, q3, b3, c3, i3, j3, k3⟩ := star2 a3
  obtain ⟨v3, rfl⟩ := osl_one b3
  have g4 := Star.one (c := ownA kSl_2 x.blocks [v3]) b3
  obtain ⟨v4, rfl⟩ := osl_one c3
  have g5 := Star.one (c := ownA kSl_151 x.ents [v4]) c3
  have g6 := g4.app g5 i3 j3 k3
  have g7 := g6.up j2
  have g8 := g7.up j1
  have g9 := g8.up j0
  exact ⟨v3, v4, rfl, g9⟩
theorem kT_73_op {x : DInode} {cs : List Value} (w : World) (S : Bs) (h : Star [ownA kT_73 x cs] w S) : ∃ g : Value × Value, cs = [.int .i64 x.kind, .int .i64 x.links, .int .i64 x.size, g.1, g.2] ∧ Star [ownA kSl_2 x.blocks [g.1], ownA kSl_151 x.ents [g.2]] w S := by
  obtain ⟨v3, v4, h1, h2⟩ := kT_73_own (show kT_73.own w S x cs from h.head (c := ownA kT_73 x cs))
  exact ⟨(v3, v4), h1, h2⟩
theorem kT_73_omk {w : World} {S : Bs} (x : DInode) {v3 : Value} {v4 : Value} (h : Star [ownA kSl_2 x.blocks [v3], ownA kSl_151 x.ents [v4]] w S) : kT_73.own w S x [.int .i64 x.kind, .int .i64 x.links, .int .i64 x.size, v3, v4] := by
  have m1 : Mk (kint .i64) x.kind [.int .i64 x.kind] [] := mk_int
  have m2 : Mk (kint .i64) x.links [.int .i64 x.links] [] := mk_int
  have m3 : Mk (kint .i64) x.size [.int .i64 x.size] [] := mk_int
  have m4 : Mk kSl_2 x.blocks [v3] [ownA kSl_2 x.blocks [v3]] := mk_leaf
  have m5 : Mk kSl_151 x.ents [v4] [ownA kSl_151 x.ents [v4]] := mk_leaf
  have m6 : Mk (kpair kSl_2 kSl_151) (x.blocks, x.ents) ([v3] ++ [v4]) ([ownA kSl_2 x.blocks [v3]] ++ [ownA kSl_151 x.ents [v4]]) := mk_pair m4 m5
  have m7 : Mk (kpair (kint .i64) (kpair kSl_2 kSl_151)) (x.size, (x.blocks, x.ents)) ([.int .i64 x.size] ++ ([v3] ++ [v4])) ([] ++ ([ownA kSl_2 x.blocks [v3]] ++ [ownA kSl_151 x.ents [v4]])) := mk_pair m3 m6
  have m8 : Mk (kpair (kint .i64) (kpair (kint .i64) (kpair kSl_2 kSl_151))) (x.links, (x.size, (x.blocks, x.ents))) ([.int .i64 x.links] ++ ([.int .i64 x.size] ++ ([v3] ++ [v4]))) ([] ++ ([] ++ ([ownA kSl_2 x.blocks [v3]] ++ [ownA kSl_151 x.ents [v4]]))) := mk_pair m2 m7
  have m9 : Mk (kpair (kint .i64) (kpair (kint .i64) (kpair (kint .i64) (kpair kSl_2 kSl_151)))) (x.kind, (x.links, (x.size, (x.blocks, x.ents)))) ([.int .i64 x.kind] ++ ([.int .i64 x.links] ++ ([.int .i64 x.size] ++ ([v3] ++ [v4])))) ([] ++ ([] ++ ([] ++ ([ownA kSl_2 x.blocks [v3]] ++ [ownA kSl_151 x.ents [v4]])))) := mk_pair m1 m8
  have m0 : Mk kT_73 x ([.int .i64 x.kind] ++ ([.int .i64 x.links] ++ ([.int .i64 x.size] ++ ([v3] ++ [v4])))) ([] ++ ([] ++ ([] ++ ([ownA kSl_2 x.blocks [v3]] ++ [ownA kSl_151 x.ents [v4]])))) := m9
  exact m0 w S h
def RA_73 (x : DInode) (r : Value) (l : List Asn) : Prop := ∃ v3 v4, r = .agg #[.int .i64 x.kind, .int .i64 x.links, .int .i64 x.size, v3, v4] ∧ l = [ownA kSl_2 x.blocks [v3], ownA kSl_151 x.ents [v4]]
theorem zero_73 (w : World) (S : Bs) : kT_73.own w S (⟨0, 0, 0, [], []⟩ : DInode) [.int .i64 0, .int .i64 0, .int .i64 0, .slice none 0 0, .slice none 0 0] := kT_73_omk (⟨0, 0, 0, [], []⟩ : DInode) (⟨fun _ => False, fun _ => False, own_nil _ _ none, ⟨fun _ => False, fun _ => False, own_nil _ _ none, trivial, fun _ h => h.elim, fun _ h => h.elim, fun _ h => h.elim⟩, fun _ h => h.elim, fun _ h => h.elim, fun _ h => h.elim⟩)
def PA_73 (g e s : Nat) (post : List Value) (x : DInode) (r : Value) (l : List Asn) : Prop := ∃ v3 v4, r = .tuple #[] ∧ l = [rowA g e s 1 ((.int .i64 x.kind) :: (.int .i64 x.links) :: (.int .i64 x.size) :: v3 :: v4 :: post), ownA kSl_2 x.blocks [v3], ownA kSl_151 x.ents [v4]]
abbrev kSl_73 : Kd (List DInode) := kslice 73 72 kT_73
theorem u_29 : Tryz.prog.underlying 29 = some (.slice 73) := by kernel_rfl
theorem ag_29 : AggIs Tryz.prog 29 false := by unfold AggIs; kernel_rfl
theorem z_29 : (Tryz.prog.info? 29).map (·.zero) = some (some (.slice none 0 0)) := by kernel_rfl
theorem sz_29 : (Tryz.prog.info? 29).map (·.size) = some 1 := by kernel_rfl
theorem inf_73 : (Tryz.prog.info? 73).map (fun i => (i.size, i.bytes, i.zero)) = some (kT_73.sz, 72, some (.agg #[.int .i64 0, .int .i64 0, .int .i64 0, .slice none 0 0, .slice none 0 0])) := by kernel_rfl
def kT_31 : Kd DFs := kiso (kpair kSl_73 kSl_26) (fun x => (x.inodes, x.data))
theorem sz_31 : (Tryz.prog.info? 31).map (·.size) = some 2 := by kernel_rfl
theorem z_31 : (Tryz.prog.info? 31).map (·.zero) = some (some (.agg #[.slice none 0 0, .slice none 0 0])) := by kernel_rfl
theorem ag_31 : AggIs Tryz.prog 31 true := by unfold AggIs; kernel_rfl
theorem bl_31 : BuildOk Tryz.prog 31 (.agg #[.slice none 0 0, .slice none 0 0]) #[(0, 1), (1, 1)] := ⟨by kernel_rfl, by kernel_rfl, fun w => by kernel_rfl⟩
theorem fa_31_0 (ad : Addr) (w : World) : (Instr.fieldAt 31 (.pointer (some ad)) 0).run Tryz.prog w = .ok (.pointer (some (ad.add 0))) w := by kernel_rfl
theorem fa_31_1 (ad : Addr) (w : World) : (Instr.fieldAt 31 (.pointer (some ad)) 1).run Tryz.prog w = .ok (.pointer (some (ad.add 1))) w := by kernel_rfl
theorem kT_31_ro {w : World} {F : Bs} {x : DFs} {cs : List Value} (h : kT_31.ro w F x cs) : ∃ v0 v1, cs = [v0, v1] ∧ kSl_73.ro w F x.inodes [v0] ∧ kSl_26.ro w F x.data [v1] := by
  obtain ⟨_, _, rfl, h0, h1⟩ := h
  obtain ⟨v0, rfl⟩ := sl_one h0
  obtain ⟨v1, rfl⟩ := sl_one h1
  exact ⟨v0, v1, rfl, h0, h1⟩
theorem kT_31_mk {w : World} {F : Bs} (x : DFs) {v0 : Value} {v1 : Value} (h0 : kSl_73.ro w F x.inodes [v0]) (h1 : kSl_26.ro w F x.data [v1]) : kT_31.ro w F x [v0, v1] :=
  ⟨_, _, rfl, h0, h1⟩
theorem kT_31_own {w : World} {S : Bs} {x : DFs} {cs : List Value} (h : kT_31.own w S x cs) : ∃ v0 v1, cs = [v0, v1] ∧ Star [ownA kSl_73 x.inodes [v0], ownA kSl_26 x.data [v1]] w S := by
  obtain ⟨_, _, rfl, a0⟩ := h
  obtain ⟨p0, q0, b0, c0, i0, j0, k0⟩ := star2 a0
  obtain ⟨v0, rfl⟩ := osl_one b0
  have g1 := Star.one (c := ownA kSl_73 x.inodes [v0]) b0
  obtain ⟨v1, rfl⟩ := osl_one c0
  have g2 := Star.one (c := ownA kSl_26 x.data [v1]) c0
  have g3 := g1.app g2 i0 j0 k0
  exact ⟨v0, v1, rfl, g3⟩
theorem kT_31_op {x : DFs} {cs : List Value} (w : World) (S : Bs) (h : Star [ownA kT_31 x cs] w S) : ∃ g : Value × Value, cs = [g.1, g.2] ∧ Star [ownA kSl_73 x.inodes [g.1], ownA kSl_26 x.data [g.2]] w S := by
  obtain ⟨v0, v1, h1, h2⟩ := kT_31_own (show kT_31.own w S x cs from h.head (c := ownA kT_31 x cs))
  exact ⟨(v0, v1), h1, h2⟩
theorem kT_31_omk {w : World} {S : Bs} (x : DFs) {v0 : Value} {v1 : Value} (h : Star [ownA kSl_73 x.inodes [v0], ownA kSl_26 x.data [v1]] w S) : kT_31.own w S x [v0, v1] := by
  have m1 : Mk kSl_73 x.inodes [v0] [ownA kSl_73 x.inodes [v0]] := mk_leaf
  have m2 : Mk kSl_26 x.data [v1] [ownA kSl_26 x.data [v1]] := mk_leaf
  have m3 : Mk (kpair kSl_73 kSl_26) (x.inodes, x.data) ([v0] ++ [v1]) ([ownA kSl_73 x.inodes [v0]] ++ [ownA kSl_26 x.data [v1]]) := mk_pair m1 m2
  have m0 : Mk kT_31 x ([v0] ++ [v1]) ([ownA kSl_73 x.inodes [v0]] ++ [ownA kSl_26 x.data [v1]]) := m3
  exact m0 w S h
def RA_31 (x : DFs) (r : Value) (l : List Asn) : Prop := ∃ v0 v1, r = .agg #[v0, v1] ∧ l = [ownA kSl_73 x.inodes [v0], ownA kSl_26 x.data [v1]]
theorem zero_31 (w : World) (S : Bs) : kT_31.own w S (⟨[], []⟩ : DFs) [.slice none 0 0, .slice none 0 0] := kT_31_omk (⟨[], []⟩ : DFs) (⟨fun _ => False, fun _ => False, own_nil _ _ none, ⟨fun _ => False, fun _ => False, own_nil _ _ none, trivial, fun _ h => h.elim, fun _ h => h.elim, fun _ h => h.elim⟩, fun _ h => h.elim, fun _ h => h.elim, fun _ h => h.elim⟩)
def PA_31 (g e s : Nat) (post : List Value) (x : DFs) (r : Value) (l : List Asn) : Prop := ∃ v0 v1, r = .tuple #[] ∧ l = [rowA g e s 1 (v0 :: v1 :: post), ownA kSl_73 x.inodes [v0], ownA kSl_26 x.data [v1]]
def kT_33 : Kd RFs := kiso (kpair (kint .i64) kT_31) (fun x => (x.code, x.fs))
theorem sz_33 : (Tryz.prog.info? 33).map (·.size) = some 3 := by kernel_rfl
theorem z_33 : (Tryz.prog.info? 33).map (·.zero) = some (some (.agg #[.int .i64 0, .slice none 0 0, .slice none 0 0])) := by kernel_rfl
theorem ag_33 : AggIs Tryz.prog 33 true := by unfold AggIs; kernel_rfl
theorem bl_33 : BuildOk Tryz.prog 33 (.agg #[.int .i64 0, .slice none 0 0, .slice none 0 0]) #[(0, 1), (1, 2)] := ⟨by kernel_rfl, by kernel_rfl, fun w => by kernel_rfl⟩
theorem fa_33_0 (ad : Addr) (w : World) : (Instr.fieldAt 33 (.pointer (some ad)) 0).run Tryz.prog w = .ok (.pointer (some (ad.add 0))) w := by kernel_rfl
theorem fa_33_1 (ad : Addr) (w : World) : (Instr.fieldAt 33 (.pointer (some ad)) 1).run Tryz.prog w = .ok (.pointer (some (ad.add 1))) w := by kernel_rfl
theorem kT_33_ro {w : World} {F : Bs} {x : RFs} {cs : List Value} (h : kT_33.ro w F x cs) : ∃ v1 v2, cs = [.int .i64 x.code, v1, v2] ∧ kSl_73.ro w F x.fs.inodes [v1] ∧ kSl_26.ro w F x.fs.data [v2] := by
  obtain ⟨_, _, rfl, ⟨rfl, -⟩, ⟨_, _, rfl, h1, h2⟩⟩ := h
  obtain ⟨v1, rfl⟩ := sl_one h1
  obtain ⟨v2, rfl⟩ := sl_one h2
  exact ⟨v1, v2, rfl, h1, h2⟩
theorem kT_33_mk {w : World} {F : Bs} (x : RFs) {v1 : Value} {v2 : Value} (h1 : kSl_73.ro w F x.fs.inodes [v1]) (h2 : kSl_26.ro w F x.fs.data [v2]) : kT_33.ro w F x [.int .i64 x.code, v1, v2] :=
  ⟨_, _, rfl, ⟨rfl, trivial⟩, ⟨_, _, rfl, h1, h2⟩⟩
theorem kT_33_own {w : World} {S : Bs} {x : RFs} {cs : List Value} (h : kT_33.own w S x cs) : ∃ v1 v2, cs = [.int .i64 x.code, v1, v2] ∧ Star [ownA kSl_73 x.fs.inodes [v1], ownA kSl_26 x.fs.data [v2]] w S := by
  obtain ⟨_, _, rfl, a0⟩ := h
  obtain ⟨p0, q0, b0, c0, i0, j0, k0⟩ := star2 a0
  obtain ⟨rfl, -⟩ := b0
  obtain ⟨_, _, rfl, a1⟩ := c0
  obtain ⟨p1, q1, b1, c1, i1, j1, k1⟩ := star2 a1
  obtain ⟨v1, rfl⟩ := osl_one b1
  have g2 := Star.one (c := ownA kSl_73 x.fs.inodes [v1]) b1
  obtain ⟨v2, rfl⟩ := osl_one c1
  have g3 := Star.one (c := ownA kSl_26 x.fs.data [v2]) c1
  have g4 := g2.app g3 i1 j1 k1
  have g5 := g4.up j0
  exact ⟨v1, v2, rfl, g5⟩
theorem kT_33_op {x : RFs} {cs : List Value} (w : World) (S : Bs) (h : Star [ownA kT_33 x cs] w S) : ∃ g : Value × Value, cs = [.int .i64 x.code, g.1, g.2] ∧ Star [ownA kSl_73 x.fs.inodes [g.1], ownA kSl_26 x.fs.data [g.2]] w S := by
  obtain ⟨v1, v2, h1, h2⟩ := kT_33_own (show kT_33.own w S x cs from h.head (c := ownA kT_33 x cs))
  exact ⟨(v1, v2), h1, h2⟩
theorem kT_33_omk {w : World} {S : Bs} (x : RFs) {v1 : Value} {v2 : Value} (h : Star [ownA kSl_73 x.fs.inodes [v1], ownA kSl_26 x.fs.data [v2]] w S) : kT_33.own w S x [.int .i64 x.code, v1, v2] := by
  have m1 : Mk (kint .i64) x.code [.int .i64 x.code] [] := mk_int
  have m3 : Mk kSl_73 x.fs.inodes [v1] [ownA kSl_73 x.fs.inodes [v1]] := mk_leaf
  have m4 : Mk kSl_26 x.fs.data [v2] [ownA kSl_26 x.fs.data [v2]] := mk_leaf
  have m5 : Mk (kpair kSl_73 kSl_26) (x.fs.inodes, x.fs.data) ([v1] ++ [v2]) ([ownA kSl_73 x.fs.inodes [v1]] ++ [ownA kSl_26 x.fs.data [v2]]) := mk_pair m3 m4
  have m2 : Mk kT_31 x.fs ([v1] ++ [v2]) ([ownA kSl_73 x.fs.inodes [v1]] ++ [ownA kSl_26 x.fs.data [v2]]) := m5
  have m6 : Mk (kpair (kint .i64) kT_31) (x.code, x.fs) ([.int .i64 x.code] ++ ([v1] ++ [v2])) ([] ++ ([ownA kSl_73 x.fs.inodes [v1]] ++ [ownA kSl_26 x.fs.data [v2]])) := mk_pair m1 m2
  have m0 : Mk kT_33 x ([.int .i64 x.code] ++ ([v1] ++ [v2])) ([] ++ ([ownA kSl_73 x.fs.inodes [v1]] ++ [ownA kSl_26 x.fs.data [v2]])) := m6
  exact m0 w S h
def RA_33 (x : RFs) (r : Value) (l : List Asn) : Prop := ∃ v1 v2, r = .agg #[.int .i64 x.code, v1, v2] ∧ l = [ownA kSl_73 x.fs.inodes [v1], ownA kSl_26 x.fs.data [v2]]
theorem zero_33 (w : World) (S : Bs) : kT_33.own w S (⟨0, (⟨[], []⟩ : DFs)⟩ : RFs) [.int .i64 0, .slice none 0 0, .slice none 0 0] := kT_33_omk (⟨0, (⟨[], []⟩ : DFs)⟩ : RFs) (⟨fun _ => False, fun _ => False, own_nil _ _ none, ⟨fun _ => False, fun _ => False, own_nil _ _ none, trivial, fun _ h => h.elim, fun _ h => h.elim, fun _ h => h.elim⟩, fun _ h => h.elim, fun _ h => h.elim, fun _ h => h.elim⟩)
def PA_33 (g e s : Nat) (post : List Value) (x : RFs) (r : Value) (l : List Asn) : Prop := ∃ v1 v2, r = .tuple #[] ∧ l = [rowA g e s 1 ((.int .i64 x.code) :: v1 :: v2 :: post), ownA kSl_73 x.fs.inodes [v1], ownA kSl_26 x.fs.data [v2]]
abbrev kSl_9 : Kd (List ByteArray) := kslice 9 16 kstr
theorem u_51 : Tryz.prog.underlying 51 = some (.slice 9) := by kernel_rfl
theorem ag_51 : AggIs Tryz.prog 51 false := by unfold AggIs; kernel_rfl
theorem z_51 : (Tryz.prog.info? 51).map (·.zero) = some (some (.slice none 0 0)) := by kernel_rfl
theorem sz_51 : (Tryz.prog.info? 51).map (·.size) = some 1 := by kernel_rfl
theorem inf_9 : (Tryz.prog.info? 9).map (fun i => (i.size, i.bytes, i.zero)) = some (kstr.sz, 16, some (.string ⟨#[]⟩)) := by kernel_rfl
def kT_53 : Kd RNames := kiso (kpair (kint .i64) kSl_9) (fun x => (x.code, x.names))
theorem sz_53 : (Tryz.prog.info? 53).map (·.size) = some 2 := by kernel_rfl
theorem z_53 : (Tryz.prog.info? 53).map (·.zero) = some (some (.agg #[.int .i64 0, .slice none 0 0])) := by kernel_rfl
theorem ag_53 : AggIs Tryz.prog 53 true := by unfold AggIs; kernel_rfl
theorem bl_53 : BuildOk Tryz.prog 53 (.agg #[.int .i64 0, .slice none 0 0]) #[(0, 1), (1, 1)] := ⟨by kernel_rfl, by kernel_rfl, fun w => by kernel_rfl⟩
theorem fa_53_0 (ad : Addr) (w : World) : (Instr.fieldAt 53 (.pointer (some ad)) 0).run Tryz.prog w = .ok (.pointer (some (ad.add 0))) w := by kernel_rfl
theorem fa_53_1 (ad : Addr) (w : World) : (Instr.fieldAt 53 (.pointer (some ad)) 1).run Tryz.prog w = .ok (.pointer (some (ad.add 1))) w := by kernel_rfl
theorem kT_53_ro {w : World} {F : Bs} {x : RNames} {cs : List Value} (h : kT_53.ro w F x cs) : ∃ v1, cs = [.int .i64 x.code, v1] ∧ kSl_9.ro w F x.names [v1] := by
  obtain ⟨_, _, rfl, ⟨rfl, -⟩, h1⟩ := h
  obtain ⟨v1, rfl⟩ := sl_one h1
  exact ⟨v1, rfl, h1⟩
theorem kT_53_mk {w : World} {F : Bs} (x : RNames) {v1 : Value} (h1 : kSl_9.ro w F x.names [v1]) : kT_53.ro w F x [.int .i64 x.code, v1] :=
  ⟨_, _, rfl, ⟨rfl, trivial⟩, h1⟩
theorem kT_53_own {w : World} {S : Bs} {x : RNames} {cs : List Value} (h : kT_53.own w S x cs) : ∃ v1, cs = [.int .i64 x.code, v1] ∧ Star [ownA kSl_9 x.names [v1]] w S := by
  obtain ⟨_, _, rfl, a0⟩ := h
  obtain ⟨p0, q0, b0, c0, i0, j0, k0⟩ := star2 a0
  obtain ⟨rfl, -⟩ := b0
  obtain ⟨v1, rfl⟩ := osl_one c0
  have g1 := Star.one (c := ownA kSl_9 x.names [v1]) c0
  have g2 := g1.up j0
  exact ⟨v1, rfl, g2⟩
theorem kT_53_op {x : RNames} {cs : List Value} (w : World) (S : Bs) (h : Star [ownA kT_53 x cs] w S) : ∃ g : Value, cs = [.int .i64 x.code, g] ∧ Star [ownA kSl_9 x.names [g]] w S := by
  obtain ⟨v1, h1, h2⟩ := kT_53_own (show kT_53.own w S x cs from h.head (c := ownA kT_53 x cs))
  exact ⟨(v1), h1, h2⟩
theorem kT_53_omk {w : World} {S : Bs} (x : RNames) {v1 : Value} (h : Star [ownA kSl_9 x.names [v1]] w S) : kT_53.own w S x [.int .i64 x.code, v1] := by
  have m1 : Mk (kint .i64) x.code [.int .i64 x.code] [] := mk_int
  have m2 : Mk kSl_9 x.names [v1] [ownA kSl_9 x.names [v1]] := mk_leaf
  have m3 : Mk (kpair (kint .i64) kSl_9) (x.code, x.names) ([.int .i64 x.code] ++ [v1]) ([] ++ [ownA kSl_9 x.names [v1]]) := mk_pair m1 m2
  have m0 : Mk kT_53 x ([.int .i64 x.code] ++ [v1]) ([] ++ [ownA kSl_9 x.names [v1]]) := m3
  exact m0 w S h
def RA_53 (x : RNames) (r : Value) (l : List Asn) : Prop := ∃ v1, r = .agg #[.int .i64 x.code, v1] ∧ l = [ownA kSl_9 x.names [v1]]
theorem zero_53 (w : World) (S : Bs) : kT_53.own w S (⟨0, []⟩ : RNames) [.int .i64 0, .slice none 0 0] := kT_53_omk (⟨0, []⟩ : RNames) (⟨fun _ => False, fun _ => False, own_nil _ _ none, trivial, fun _ h => h.elim, fun _ h => h.elim, fun _ h => h.elim⟩)
def PA_53 (g e s : Nat) (post : List Value) (x : RNames) (r : Value) (l : List Asn) : Prop := ∃ v1, r = .tuple #[] ∧ l = [rowA g e s 1 ((.int .i64 x.code) :: v1 :: post), ownA kSl_9 x.names [v1]]
def kT_62 : Kd RBytes := kiso (kpair (kint .i64) kSl_5) (fun x => (x.code, x.bytes))
theorem sz_62 : (Tryz.prog.info? 62).map (·.size) = some 2 := by kernel_rfl
theorem z_62 : (Tryz.prog.info? 62).map (·.zero) = some (some (.agg #[.int .i64 0, .slice none 0 0])) := by kernel_rfl
theorem ag_62 : AggIs Tryz.prog 62 true := by unfold AggIs; kernel_rfl
theorem bl_62 : BuildOk Tryz.prog 62 (.agg #[.int .i64 0, .slice none 0 0]) #[(0, 1), (1, 1)] := ⟨by kernel_rfl, by kernel_rfl, fun w => by kernel_rfl⟩
theorem fa_62_0 (ad : Addr) (w : World) : (Instr.fieldAt 62 (.pointer (some ad)) 0).run Tryz.prog w = .ok (.pointer (some (ad.add 0))) w := by kernel_rfl
theorem fa_62_1 (ad : Addr) (w : World) : (Instr.fieldAt 62 (.pointer (some ad)) 1).run Tryz.prog w = .ok (.pointer (some (ad.add 1))) w := by kernel_rfl
theorem kT_62_ro {w : World} {F : Bs} {x : RBytes} {cs : List Value} (h : kT_62.ro w F x cs) : ∃ v1, cs = [.int .i64 x.code, v1] ∧ kSl_5.ro w F x.bytes [v1] := by
  obtain ⟨_, _, rfl, ⟨rfl, -⟩, h1⟩ := h
  obtain ⟨v1, rfl⟩ := sl_one h1
  exact ⟨v1, rfl, h1⟩
theorem kT_62_mk {w : World} {F : Bs} (x : RBytes) {v1 : Value} (h1 : kSl_5.ro w F x.bytes [v1]) : kT_62.ro w F x [.int .i64 x.code, v1] :=
  ⟨_, _, rfl, ⟨rfl, trivial⟩, h1⟩
theorem kT_62_own {w : World} {S : Bs} {x : RBytes} {cs : List Value} (h : kT_62.own w S x cs) : ∃ v1, cs = [.int .i64 x.code, v1] ∧ Star [ownA kSl_5 x.bytes [v1]] w S := by
  obtain ⟨_, _, rfl, a0⟩ := h
  obtain ⟨p0, q0, b0, c0, i0, j0, k0⟩ := star2 a0
  obtain ⟨rfl, -⟩ := b0
  obtain ⟨v1, rfl⟩ := osl_one c0
  have g1 := Star.one (c := ownA kSl_5 x.bytes [v1]) c0
  have g2 := g1.up j0
  exact ⟨v1, rfl, g2⟩
theorem kT_62_op {x : RBytes} {cs : List Value} (w : World) (S : Bs) (h : Star [ownA kT_62 x cs] w S) : ∃ g : Value, cs = [.int .i64 x.code, g] ∧ Star [ownA kSl_5 x.bytes [g]] w S := by
  obtain ⟨v1, h1, h2⟩ := kT_62_own (show kT_62.own w S x cs from h.head (c := ownA kT_62 x cs))
  exact ⟨(v1), h1, h2⟩
theorem kT_62_omk {w : World} {S : Bs} (x : RBytes) {v1 : Value} (h : Star [ownA kSl_5 x.bytes [v1]] w S) : kT_62.own w S x [.int .i64 x.code, v1] := by
  have m1 : Mk (kint .i64) x.code [.int .i64 x.code] [] := mk_int
  have m2 : Mk kSl_5 x.bytes [v1] [ownA kSl_5 x.bytes [v1]] := mk_leaf
  have m3 : Mk (kpair (kint .i64) kSl_5) (x.code, x.bytes) ([.int .i64 x.code] ++ [v1]) ([] ++ [ownA kSl_5 x.bytes [v1]]) := mk_pair m1 m2
  have m0 : Mk kT_62 x ([.int .i64 x.code] ++ [v1]) ([] ++ [ownA kSl_5 x.bytes [v1]]) := m3
  exact m0 w S h
def RA_62 (x : RBytes) (r : Value) (l : List Asn) : Prop := ∃ v1, r = .agg #[.int .i64 x.code, v1] ∧ l = [ownA kSl_5 x.bytes [v1]]
theorem zero_62 (w : World) (S : Bs) : kT_62.own w S (⟨0, []⟩ : RBytes) [.int .i64 0, .slice none 0 0] := kT_62_omk (⟨0, []⟩ : RBytes) (⟨fun _ => False, fun _ => False, own_nil _ _ none, trivial, fun _ h => h.elim, fun _ h => h.elim, fun _ h => h.elim⟩)
def PA_62 (g e s : Nat) (post : List Value) (x : RBytes) (r : Value) (l : List Asn) : Prop := ∃ v1, r = .tuple #[] ∧ l = [rowA g e s 1 ((.int .i64 x.code) :: v1 :: post), ownA kSl_5 x.bytes [v1]]
def kT_81 : Kd RInt := kiso (kpair (kint .i64) (kint .i64)) (fun x => (x.code, x.val))
theorem sz_81 : (Tryz.prog.info? 81).map (·.size) = some 2 := by kernel_rfl
theorem z_81 : (Tryz.prog.info? 81).map (·.zero) = some (some (.agg #[.int .i64 0, .int .i64 0])) := by kernel_rfl
theorem ag_81 : AggIs Tryz.prog 81 true := by unfold AggIs; kernel_rfl
theorem bl_81 : BuildOk Tryz.prog 81 (.agg #[.int .i64 0, .int .i64 0]) #[(0, 1), (1, 1)] := ⟨by kernel_rfl, by kernel_rfl, fun w => by kernel_rfl⟩
theorem fa_81_0 (ad : Addr) (w : World) : (Instr.fieldAt 81 (.pointer (some ad)) 0).run Tryz.prog w = .ok (.pointer (some (ad.add 0))) w := by kernel_rfl
theorem fa_81_1 (ad : Addr) (w : World) : (Instr.fieldAt 81 (.pointer (some ad)) 1).run Tryz.prog w = .ok (.pointer (some (ad.add 1))) w := by kernel_rfl
theorem ent_gd_81 : Tryz.prog.eqGuardType Tryz.prog.depth 81 = false := by kernel_rfl
theorem ent_eq_81 (x y : RInt) (w : World) : (Op.equalIn 10000 81 (.agg #[.int .i64 x.code, .int .i64 x.val]) (.agg #[.int .i64 y.code, .int .i64 y.val])).run Tryz.prog w = .ok (decide (x = y)) w := by
  rw [run_equalIn_struct w 9999 81 _ _ (by kernel_rfl) (by kernel_rfl)]
  rw [show (Tryz.prog.fieldsOf 81).toList = [(Tryz.prog.fieldsOf 81)[0]!, (Tryz.prog.fieldsOf 81)[1]!] by kernel_rfl]
  refine ((eqFs_cons (a := .int .i64 x.code) (b := .int .i64 y.code) (by kernel_rfl) (fun w => by kernel_rfl) (fun w => by kernel_rfl) (fun w => run_equalIn_int w 9998 _ .i64 .i64 x.code y.code (by kernel_rfl)) (eqFs_cons (a := .int .i64 x.val) (b := .int .i64 y.val) (by kernel_rfl) (fun w => by kernel_rfl) (fun w => by kernel_rfl) (fun w => run_equalIn_int w 9998 _ .i64 .i64 x.val y.val (by kernel_rfl)) eqFs_nil)) w).trans ?_
  congr 1; cases x; cases y; simp only [beq_str, beq_int, Bool.and_true, RInt.mk.injEq, Bool.decide_and]
theorem kT_81_ro {w : World} {F : Bs} {x : RInt} {cs : List Value} (h : kT_81.ro w F x cs) : cs = [.int .i64 x.code, .int .i64 x.val] := by
  obtain ⟨_, _, rfl, ⟨rfl, -⟩, ⟨rfl, -⟩⟩ := h
  exact rfl
theorem kT_81_mk {w : World} {F : Bs} (x : RInt) : kT_81.ro w F x [.int .i64 x.code, .int .i64 x.val] :=
  ⟨_, _, rfl, ⟨rfl, trivial⟩, ⟨rfl, trivial⟩⟩
theorem kT_81_own {w : World} {S : Bs} {x : RInt} {cs : List Value} (h : kT_81.own w S x cs) : cs = [.int .i64 x.code, .int .i64 x.val] ∧ Star [] w S := by
  obtain ⟨_, _, rfl, a0⟩ := h
  obtain ⟨p0, q0, b0, c0, i0, j0, k0⟩ := star2 a0
  obtain ⟨rfl, -⟩ := b0
  obtain ⟨rfl, -⟩ := c0
  exact ⟨rfl, trivial⟩
theorem kT_81_op {x : RInt} {cs : List Value} (w : World) (S : Bs) (h : Star [ownA kT_81 x cs] w S) : ∃ g : Unit, cs = [.int .i64 x.code, .int .i64 x.val] ∧ Star [] w S := by
  obtain ⟨h1, h2⟩ := kT_81_own (show kT_81.own w S x cs from h.head (c := ownA kT_81 x cs))
  exact ⟨(), h1, h2⟩
theorem kT_81_omk {w : World} {S : Bs} (x : RInt) (h : Star [] w S) : kT_81.own w S x [.int .i64 x.code, .int .i64 x.val] := by
  have m1 : Mk (kint .i64) x.code [.int .i64 x.code] [] := mk_int
  have m2 : Mk (kint .i64) x.val [.int .i64 x.val] [] := mk_int
  have m3 : Mk (kpair (kint .i64) (kint .i64)) (x.code, x.val) ([.int .i64 x.code] ++ [.int .i64 x.val]) ([] ++ []) := mk_pair m1 m2
  have m0 : Mk kT_81 x ([.int .i64 x.code] ++ [.int .i64 x.val]) ([] ++ []) := m3
  exact m0 w S h
def RA_81 (x : RInt) (r : Value) (l : List Asn) : Prop := r = .agg #[.int .i64 x.code, .int .i64 x.val] ∧ l = []
theorem zero_81 (w : World) (S : Bs) : kT_81.own w S (⟨0, 0⟩ : RInt) [.int .i64 0, .int .i64 0] := kT_81_omk (⟨0, 0⟩ : RInt) (trivial)
def PA_81 (g e s : Nat) (post : List Value) (x : RInt) (r : Value) (l : List Asn) : Prop := r = .tuple #[] ∧ l = [rowA g e s 1 ((.int .i64 x.code) :: (.int .i64 x.val) :: post)]
def kT_143 : Kd RInts := kiso (kpair (kint .i64) kSl_2) (fun x => (x.code, x.list))
theorem sz_143 : (Tryz.prog.info? 143).map (·.size) = some 2 := by kernel_rfl
theorem z_143 : (Tryz.prog.info? 143).map (·.zero) = some (some (.agg #[.int .i64 0, .slice none 0 0])) := by kernel_rfl
theorem ag_143 : AggIs Tryz.prog 143 true := by unfold AggIs; kernel_rfl
theorem bl_143 : BuildOk Tryz.prog 143 (.agg #[.int .i64 0, .slice none 0 0]) #[(0, 1), (1, 1)] := ⟨by kernel_rfl, by kernel_rfl, fun w => by kernel_rfl⟩
theorem fa_143_0 (ad : Addr) (w : World) : (Instr.fieldAt 143 (.pointer (some ad)) 0).run Tryz.prog w = .ok (.pointer (some (ad.add 0))) w := by kernel_rfl
theorem fa_143_1 (ad : Addr) (w : World) : (Instr.fieldAt 143 (.pointer (some ad)) 1).run Tryz.prog w = .ok (.pointer (some (ad.add 1))) w := by kernel_rfl
theorem kT_143_ro {w : World} {F : Bs} {x : RInts} {cs : List Value} (h : kT_143.ro w F x cs) : ∃ v1, cs = [.int .i64 x.code, v1] ∧ kSl_2.ro w F x.list [v1] := by
  obtain ⟨_, _, rfl, ⟨rfl, -⟩, h1⟩ := h
  obtain ⟨v1, rfl⟩ := sl_one h1
  exact ⟨v1, rfl, h1⟩
theorem kT_143_mk {w : World} {F : Bs} (x : RInts) {v1 : Value} (h1 : kSl_2.ro w F x.list [v1]) : kT_143.ro w F x [.int .i64 x.code, v1] :=
  ⟨_, _, rfl, ⟨rfl, trivial⟩, h1⟩
theorem kT_143_own {w : World} {S : Bs} {x : RInts} {cs : List Value} (h : kT_143.own w S x cs) : ∃ v1, cs = [.int .i64 x.code, v1] ∧ Star [ownA kSl_2 x.list [v1]] w S := by
  obtain ⟨_, _, rfl, a0⟩ := h
  obtain ⟨p0, q0, b0, c0, i0, j0, k0⟩ := star2 a0
  obtain ⟨rfl, -⟩ := b0
  obtain ⟨v1, rfl⟩ := osl_one c0
  have g1 := Star.one (c := ownA kSl_2 x.list [v1]) c0
  have g2 := g1.up j0
  exact ⟨v1, rfl, g2⟩
theorem kT_143_op {x : RInts} {cs : List Value} (w : World) (S : Bs) (h : Star [ownA kT_143 x cs] w S) : ∃ g : Value, cs = [.int .i64 x.code, g] ∧ Star [ownA kSl_2 x.list [g]] w S := by
  obtain ⟨v1, h1, h2⟩ := kT_143_own (show kT_143.own w S x cs from h.head (c := ownA kT_143 x cs))
  exact ⟨(v1), h1, h2⟩
theorem kT_143_omk {w : World} {S : Bs} (x : RInts) {v1 : Value} (h : Star [ownA kSl_2 x.list [v1]] w S) : kT_143.own w S x [.int .i64 x.code, v1] := by
  have m1 : Mk (kint .i64) x.code [.int .i64 x.code] [] := mk_int
  have m2 : Mk kSl_2 x.list [v1] [ownA kSl_2 x.list [v1]] := mk_leaf
  have m3 : Mk (kpair (kint .i64) kSl_2) (x.code, x.list) ([.int .i64 x.code] ++ [v1]) ([] ++ [ownA kSl_2 x.list [v1]]) := mk_pair m1 m2
  have m0 : Mk kT_143 x ([.int .i64 x.code] ++ [v1]) ([] ++ [ownA kSl_2 x.list [v1]]) := m3
  exact m0 w S h
def RA_143 (x : RInts) (r : Value) (l : List Asn) : Prop := ∃ v1, r = .agg #[.int .i64 x.code, v1] ∧ l = [ownA kSl_2 x.list [v1]]
theorem zero_143 (w : World) (S : Bs) : kT_143.own w S (⟨0, []⟩ : RInts) [.int .i64 0, .slice none 0 0] := kT_143_omk (⟨0, []⟩ : RInts) (⟨fun _ => False, fun _ => False, own_nil _ _ none, trivial, fun _ h => h.elim, fun _ h => h.elim, fun _ h => h.elim⟩)
def PA_143 (g e s : Nat) (post : List Value) (x : RInts) (r : Value) (l : List Asn) : Prop := ∃ v1, r = .tuple #[] ∧ l = [rowA g e s 1 ((.int .i64 x.code) :: v1 :: post), ownA kSl_2 x.list [v1]]
def kT_165 : Kd DSrc := kiso (kpair kSl_5 (kint .i64)) (fun x => (x.code, x.at_))
theorem sz_165 : (Tryz.prog.info? 165).map (·.size) = some 2 := by kernel_rfl
theorem z_165 : (Tryz.prog.info? 165).map (·.zero) = some (some (.agg #[.slice none 0 0, .int .i64 0])) := by kernel_rfl
theorem ag_165 : AggIs Tryz.prog 165 true := by unfold AggIs; kernel_rfl
theorem bl_165 : BuildOk Tryz.prog 165 (.agg #[.slice none 0 0, .int .i64 0]) #[(0, 1), (1, 1)] := ⟨by kernel_rfl, by kernel_rfl, fun w => by kernel_rfl⟩
theorem fa_165_0 (ad : Addr) (w : World) : (Instr.fieldAt 165 (.pointer (some ad)) 0).run Tryz.prog w = .ok (.pointer (some (ad.add 0))) w := by kernel_rfl
theorem fa_165_1 (ad : Addr) (w : World) : (Instr.fieldAt 165 (.pointer (some ad)) 1).run Tryz.prog w = .ok (.pointer (some (ad.add 1))) w := by kernel_rfl
theorem kT_165_ro {w : World} {F : Bs} {x : DSrc} {cs : List Value} (h : kT_165.ro w F x cs) : ∃ v0, cs = [v0, .int .i64 x.at_] ∧ kSl_5.ro w F x.code [v0] := by
  obtain ⟨_, _, rfl, h0, ⟨rfl, -⟩⟩ := h
  obtain ⟨v0, rfl⟩ := sl_one h0
  exact ⟨v0, rfl, h0⟩
theorem kT_165_mk {w : World} {F : Bs} (x : DSrc) {v0 : Value} (h0 : kSl_5.ro w F x.code [v0]) : kT_165.ro w F x [v0, .int .i64 x.at_] :=
  ⟨_, _, rfl, h0, ⟨rfl, trivial⟩⟩
theorem kT_165_own {w : World} {S : Bs} {x : DSrc} {cs : List Value} (h : kT_165.own w S x cs) : ∃ v0, cs = [v0, .int .i64 x.at_] ∧ Star [ownA kSl_5 x.code [v0]] w S := by
  obtain ⟨_, _, rfl, a0⟩ := h
  obtain ⟨p0, q0, b0, c0, i0, j0, k0⟩ := star2 a0
  obtain ⟨v0, rfl⟩ := osl_one b0
  have g1 := Star.one (c := ownA kSl_5 x.code [v0]) b0
  obtain ⟨rfl, -⟩ := c0
  have g2 := g1.up i0
  exact ⟨v0, rfl, g2⟩
theorem kT_165_op {x : DSrc} {cs : List Value} (w : World) (S : Bs) (h : Star [ownA kT_165 x cs] w S) : ∃ g : Value, cs = [g, .int .i64 x.at_] ∧ Star [ownA kSl_5 x.code [g]] w S := by
  obtain ⟨v0, h1, h2⟩ := kT_165_own (show kT_165.own w S x cs from h.head (c := ownA kT_165 x cs))
  exact ⟨(v0), h1, h2⟩
theorem kT_165_omk {w : World} {S : Bs} (x : DSrc) {v0 : Value} (h : Star [ownA kSl_5 x.code [v0]] w S) : kT_165.own w S x [v0, .int .i64 x.at_] := by
  have m1 : Mk kSl_5 x.code [v0] [ownA kSl_5 x.code [v0]] := mk_leaf
  have m2 : Mk (kint .i64) x.at_ [.int .i64 x.at_] [] := mk_int
  have m3 : Mk (kpair kSl_5 (kint .i64)) (x.code, x.at_) ([v0] ++ [.int .i64 x.at_]) ([ownA kSl_5 x.code [v0]] ++ []) := mk_pair m1 m2
  have m0 : Mk kT_165 x ([v0] ++ [.int .i64 x.at_]) ([ownA kSl_5 x.code [v0]] ++ []) := m3
  exact m0 w S h
def RA_165 (x : DSrc) (r : Value) (l : List Asn) : Prop := ∃ v0, r = .agg #[v0, .int .i64 x.at_] ∧ l = [ownA kSl_5 x.code [v0]]
theorem zero_165 (w : World) (S : Bs) : kT_165.own w S (⟨[], 0⟩ : DSrc) [.slice none 0 0, .int .i64 0] := kT_165_omk (⟨[], 0⟩ : DSrc) (⟨fun _ => False, fun _ => False, own_nil _ _ none, trivial, fun _ h => h.elim, fun _ h => h.elim, fun _ h => h.elim⟩)
def PA_165 (g e s : Nat) (post : List Value) (x : DSrc) (r : Value) (l : List Asn) : Prop := ∃ v0, r = .tuple #[] ∧ l = [rowA g e s 1 (v0 :: (.int .i64 x.at_) :: post), ownA kSl_5 x.code [v0]]
abbrev kSl_4 : Kd (List Bool) := kslice 4 1 kbool
theorem u_202 : Tryz.prog.underlying 202 = some (.slice 4) := by kernel_rfl
theorem ag_202 : AggIs Tryz.prog 202 false := by unfold AggIs; kernel_rfl
theorem z_202 : (Tryz.prog.info? 202).map (·.zero) = some (some (.slice none 0 0)) := by kernel_rfl
theorem sz_202 : (Tryz.prog.info? 202).map (·.size) = some 1 := by kernel_rfl
theorem inf_4 : (Tryz.prog.info? 4).map (fun i => (i.size, i.bytes, i.zero)) = some (kbool.sz, 1, some (.bool false)) := by kernel_rfl
abbrev kSl_51 : Kd (List (List ByteArray)) := kslice 51 24 kSl_9
theorem u_206 : Tryz.prog.underlying 206 = some (.slice 51) := by kernel_rfl
theorem ag_206 : AggIs Tryz.prog 206 false := by unfold AggIs; kernel_rfl
theorem z_206 : (Tryz.prog.info? 206).map (·.zero) = some (some (.slice none 0 0)) := by kernel_rfl
theorem sz_206 : (Tryz.prog.info? 206).map (·.size) = some 1 := by kernel_rfl
theorem inf_51 : (Tryz.prog.info? 51).map (fun i => (i.size, i.bytes, i.zero)) = some (kSl_9.sz, 24, some (.slice none 0 0)) := by kernel_rfl
theorem u_220 : Tryz.prog.underlying 220 = some (.int .u64) := by kernel_rfl
theorem sz_220 : (Tryz.prog.info? 220).map (·.size) = some 1 := by kernel_rfl
theorem z_220 : (Tryz.prog.info? 220).map (·.zero) = some (some (.int .u64 0)) := by kernel_rfl
theorem ag_220 : AggIs Tryz.prog 220 false := by unfold AggIs; kernel_rfl
theorem u_234 : Tryz.prog.underlying 234 = some (.int .i64) := by kernel_rfl
theorem sz_234 : (Tryz.prog.info? 234).map (·.size) = some 1 := by kernel_rfl
theorem z_234 : (Tryz.prog.info? 234).map (·.zero) = some (some (.int .i64 0)) := by kernel_rfl
theorem ag_234 : AggIs Tryz.prog 234 false := by unfold AggIs; kernel_rfl
theorem u_243 : Tryz.prog.underlying 243 = some (.int .u32) := by kernel_rfl
theorem sz_243 : (Tryz.prog.info? 243).map (·.size) = some 1 := by kernel_rfl
theorem z_243 : (Tryz.prog.info? 243).map (·.zero) = some (some (.int .u32 0)) := by kernel_rfl
theorem ag_243 : AggIs Tryz.prog 243 false := by unfold AggIs; kernel_rfl
theorem u_245 : Tryz.prog.underlying 245 = some (.int .u64) := by kernel_rfl
theorem sz_245 : (Tryz.prog.info? 245).map (·.size) = some 1 := by kernel_rfl
theorem z_245 : (Tryz.prog.info? 245).map (·.zero) = some (some (.int .u64 0)) := by kernel_rfl
theorem ag_245 : AggIs Tryz.prog 245 false := by unfold AggIs; kernel_rfl
def kT_257 : Kd RStat := kiso (kpair (kint .i64) (kpair (kint .i64) (kpair (kint .i64) (kpair (kint .i64) (kint .i64))))) (fun x => (x.code, x.inode, x.kind, x.links, x.size))
theorem sz_257 : (Tryz.prog.info? 257).map (·.size) = some 5 := by kernel_rfl
theorem z_257 : (Tryz.prog.info? 257).map (·.zero) = some (some (.agg #[.int .i64 0, .int .i64 0, .int .i64 0, .int .i64 0, .int .i64 0])) := by kernel_rfl
theorem ag_257 : AggIs Tryz.prog 257 true := by unfold AggIs; kernel_rfl
theorem bl_257 : BuildOk Tryz.prog 257 (.agg #[.int .i64 0, .int .i64 0, .int .i64 0, .int .i64 0, .int .i64 0]) #[(0, 1), (1, 1), (2, 1), (3, 1), (4, 1)] := ⟨by kernel_rfl, by kernel_rfl, fun w => by kernel_rfl⟩
theorem fa_257_0 (ad : Addr) (w : World) : (Instr.fieldAt 257 (.pointer (some ad)) 0).run Tryz.prog w = .ok (.pointer (some (ad.add 0))) w := by kernel_rfl
theorem fa_257_1 (ad : Addr) (w : World) : (Instr.fieldAt 257 (.pointer (some ad)) 1).run Tryz.prog w = .ok (.pointer (some (ad.add 1))) w := by kernel_rfl
theorem fa_257_2 (ad : Addr) (w : World) : (Instr.fieldAt 257 (.pointer (some ad)) 2).run Tryz.prog w = .ok (.pointer (some (ad.add 2))) w := by kernel_rfl
theorem fa_257_3 (ad : Addr) (w : World) : (Instr.fieldAt 257 (.pointer (some ad)) 3).run Tryz.prog w = .ok (.pointer (some (ad.add 3))) w := by kernel_rfl
theorem fa_257_4 (ad : Addr) (w : World) : (Instr.fieldAt 257 (.pointer (some ad)) 4).run Tryz.prog w = .ok (.pointer (some (ad.add 4))) w := by kernel_rfl
theorem ent_gd_257 : Tryz.prog.eqGuardType Tryz.prog.depth 257 = false := by kernel_rfl
theorem ent_eq_257 (x y : RStat) (w : World) : (Op.equalIn 10000 257 (.agg #[.int .i64 x.code, .int .i64 x.inode, .int .i64 x.kind, .int .i64 x.links, .int .i64 x.size]) (.agg #[.int .i64 y.code, .int .i64 y.inode, .int .i64 y.kind, .int .i64 y.links, .int .i64 y.size])).run Tryz.prog w = .ok (decide (x = y)) w := by
  rw [run_equalIn_struct w 9999 257 _ _ (by kernel_rfl) (by kernel_rfl)]
  rw [show (Tryz.prog.fieldsOf 257).toList = [(Tryz.prog.fieldsOf 257)[0]!, (Tryz.prog.fieldsOf 257)[1]!, (Tryz.prog.fieldsOf 257)[2]!, (Tryz.prog.fieldsOf 257)[3]!, (Tryz.prog.fieldsOf 257)[4]!] by kernel_rfl]
  refine ((eqFs_cons (a := .int .i64 x.code) (b := .int .i64 y.code) (by kernel_rfl) (fun w => by kernel_rfl) (fun w => by kernel_rfl) (fun w => run_equalIn_int w 9998 _ .i64 .i64 x.code y.code (by kernel_rfl)) (eqFs_cons (a := .int .i64 x.inode) (b := .int .i64 y.inode) (by kernel_rfl) (fun w => by kernel_rfl) (fun w => by kernel_rfl) (fun w => run_equalIn_int w 9998 _ .i64 .i64 x.inode y.inode (by kernel_rfl)) (eqFs_cons (a := .int .i64 x.kind) (b := .int .i64 y.kind) (by kernel_rfl) (fun w => by kernel_rfl) (fun w => by kernel_rfl) (fun w => run_equalIn_int w 9998 _ .i64 .i64 x.kind y.kind (by kernel_rfl)) (eqFs_cons (a := .int .i64 x.links) (b := .int .i64 y.links) (by kernel_rfl) (fun w => by kernel_rfl) (fun w => by kernel_rfl) (fun w => run_equalIn_int w 9998 _ .i64 .i64 x.links y.links (by kernel_rfl)) (eqFs_cons (a := .int .i64 x.size) (b := .int .i64 y.size) (by kernel_rfl) (fun w => by kernel_rfl) (fun w => by kernel_rfl) (fun w => run_equalIn_int w 9998 _ .i64 .i64 x.size y.size (by kernel_rfl)) eqFs_nil))))) w).trans ?_
  congr 1; cases x; cases y; simp only [beq_str, beq_int, Bool.and_true, RStat.mk.injEq, Bool.decide_and]
theorem kT_257_ro {w : World} {F : Bs} {x : RStat} {cs : List Value} (h : kT_257.ro w F x cs) : cs = [.int .i64 x.code, .int .i64 x.inode, .int .i64 x.kind, .int .i64 x.links, .int .i64 x.size] := by
  obtain ⟨_, _, rfl, ⟨rfl, -⟩, ⟨_, _, rfl, ⟨rfl, -⟩, ⟨_, _, rfl, ⟨rfl, -⟩, ⟨_, _, rfl, ⟨rfl, -⟩, ⟨rfl, -⟩⟩⟩⟩⟩ := h
  exact rfl
theorem kT_257_mk {w : World} {F : Bs} (x : RStat) : kT_257.ro w F x [.int .i64 x.code, .int .i64 x.inode, .int .i64 x.kind, .int .i64 x.links, .int .i64 x.size] :=
  ⟨_, _, rfl, ⟨rfl, trivial⟩, ⟨_, _, rfl, ⟨rfl, trivial⟩, ⟨_, _, rfl, ⟨rfl, trivial⟩, ⟨_, _, rfl, ⟨rfl, trivial⟩, ⟨rfl, trivial⟩⟩⟩⟩⟩
theorem kT_257_own {w : World} {S : Bs} {x : RStat} {cs : List Value} (h : kT_257.own w S x cs) : cs = [.int .i64 x.code, .int .i64 x.inode, .int .i64 x.kind, .int .i64 x.links, .int .i64 x.size] ∧ Star [] w S := by
  obtain ⟨_, _, rfl, a0⟩ := h
  obtain ⟨p0, q0, b0, c0, i0, j0, k0⟩ := star2 a0
  obtain ⟨rfl, -⟩ := b0
  obtain ⟨_, _, rfl, a1⟩ := c0
  obtain ⟨p1, q1, b1, c1, i1, j1, k1⟩ := star2 a1
  obtain ⟨rfl, -⟩ := b1
  obtain ⟨_, _, rfl, a2⟩ := c1
  obtain ⟨p2, q2, b2, c2, i2, j2, k2⟩ := star2 a2
  obtain ⟨rfl, -⟩ := b2
  obtain ⟨_, _, rfl, a3⟩ := c2
  obtain ⟨p3, q3, b3, c3, i3, j3, k3⟩ := star2 a3
  obtain ⟨rfl, -⟩ := b3
  obtain ⟨rfl, -⟩ := c3
  exact ⟨rfl, trivial⟩
theorem kT_257_op {x : RStat} {cs : List Value} (w : World) (S : Bs) (h : Star [ownA kT_257 x cs] w S) : ∃ g : Unit, cs = [.int .i64 x.code, .int .i64 x.inode, .int .i64 x.kind, .int .i64 x.links, .int .i64 x.size] ∧ Star [] w S := by
  obtain ⟨h1, h2⟩ := kT_257_own (show kT_257.own w S x cs from h.head (c := ownA kT_257 x cs))
  exact ⟨(), h1, h2⟩
theorem kT_257_omk {w : World} {S : Bs} (x : RStat) (h : Star [] w S) : kT_257.own w S x [.int .i64 x.code, .int .i64 x.inode, .int .i64 x.kind, .int .i64 x.links, .int .i64 x.size] := by
  have m1 : Mk (kint .i64) x.code [.int .i64 x.code] [] := mk_int
  have m2 : Mk (kint .i64) x.inode [.int .i64 x.inode] [] := mk_int
  have m3 : Mk (kint .i64) x.kind [.int .i64 x.kind] [] := mk_int
  have m4 : Mk (kint .i64) x.links [.int .i64 x.links] [] := mk_int
  have m5 : Mk (kint .i64) x.size [.int .i64 x.size] [] := mk_int
  have m6 : Mk (kpair (kint .i64) (kint .i64)) (x.links, x.size) ([.int .i64 x.links] ++ [.int .i64 x.size]) ([] ++ []) := mk_pair m4 m5
  have m7 : Mk (kpair (kint .i64) (kpair (kint .i64) (kint .i64))) (x.kind, (x.links, x.size)) ([.int .i64 x.kind] ++ ([.int .i64 x.links] ++ [.int .i64 x.size])) ([] ++ ([] ++ [])) := mk_pair m3 m6
  have m8 : Mk (kpair (kint .i64) (kpair (kint .i64) (kpair (kint .i64) (kint .i64)))) (x.inode, (x.kind, (x.links, x.size))) ([.int .i64 x.inode] ++ ([.int .i64 x.kind] ++ ([.int .i64 x.links] ++ [.int .i64 x.size]))) ([] ++ ([] ++ ([] ++ []))) := mk_pair m2 m7
  have m9 : Mk (kpair (kint .i64) (kpair (kint .i64) (kpair (kint .i64) (kpair (kint .i64) (kint .i64))))) (x.code, (x.inode, (x.kind, (x.links, x.size)))) ([.int .i64 x.code] ++ ([.int .i64 x.inode] ++ ([.int .i64 x.kind] ++ ([.int .i64 x.links] ++ [.int .i64 x.size])))) ([] ++ ([] ++ ([] ++ ([] ++ [])))) := mk_pair m1 m8
  have m0 : Mk kT_257 x ([.int .i64 x.code] ++ ([.int .i64 x.inode] ++ ([.int .i64 x.kind] ++ ([.int .i64 x.links] ++ [.int .i64 x.size])))) ([] ++ ([] ++ ([] ++ ([] ++ [])))) := m9
  exact m0 w S h
def RA_257 (x : RStat) (r : Value) (l : List Asn) : Prop := r = .agg #[.int .i64 x.code, .int .i64 x.inode, .int .i64 x.kind, .int .i64 x.links, .int .i64 x.size] ∧ l = []
theorem zero_257 (w : World) (S : Bs) : kT_257.own w S (⟨0, 0, 0, 0, 0⟩ : RStat) [.int .i64 0, .int .i64 0, .int .i64 0, .int .i64 0, .int .i64 0] := kT_257_omk (⟨0, 0, 0, 0, 0⟩ : RStat) (trivial)
def PA_257 (g e s : Nat) (post : List Value) (x : RStat) (r : Value) (l : List Asn) : Prop := r = .tuple #[] ∧ l = [rowA g e s 1 ((.int .i64 x.code) :: (.int .i64 x.inode) :: (.int .i64 x.kind) :: (.int .i64 x.links) :: (.int .i64 x.size) :: post)]
theorem u_260 : Tryz.prog.underlying 260 = some (.int .u64) := by kernel_rfl
theorem sz_260 : (Tryz.prog.info? 260).map (·.size) = some 1 := by kernel_rfl
theorem z_260 : (Tryz.prog.info? 260).map (·.zero) = some (some (.int .u64 0)) := by kernel_rfl
theorem ag_260 : AggIs Tryz.prog 260 false := by unfold AggIs; kernel_rfl
end Go.Proofs.YticaddophhggoaaGreat

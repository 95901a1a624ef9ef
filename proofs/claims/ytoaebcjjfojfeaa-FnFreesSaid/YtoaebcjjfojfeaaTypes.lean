/- What is proved: the kinds of this program's types, laid open and put together; facts on its types. No condition. -/
import Derived.Test.YtoaebcjjfojfeaaProg
import Derived.Test.YtoaebcjjfojfeaaBase0
import Derived.Test.YtoaebcjjfojfeaaBase1
namespace Go.Proofs.Ytoaebcjjfojfeaa
open Go Go.RowKit
set_option maxRecDepth 100000
set_option linter.unusedVariables false
set_option linter.unusedSimpArgs false
theorem u_2 : Try.prog.underlying 2 = some (.int .i64) := by kernel_rfl
theorem sz_2 : (Try.prog.info? 2).map (·.size) = some 1 := by kernel_rfl
theorem z_2 : (Try.prog.info? 2).map (·.zero) = some (some (.int .i64 0)) := by kernel_rfl
theorem ag_2 : AggIs Try.prog 2 false := by unfold AggIs; kernel_rfl
theorem u_3 : Try.prog.underlying 3 = some (.int .i64) := by kernel_rfl
theorem sz_3 : (Try.prog.info? 3).map (·.size) = some 1 := by kernel_rfl
theorem z_3 : (Try.prog.info? 3).map (·.zero) = some (some (.int .i64 0)) := by kernel_rfl
theorem ag_3 : AggIs Try.prog 3 false := by unfold AggIs; kernel_rfl
theorem u_4 : Try.prog.underlying 4 = some .bool := by kernel_rfl
theorem sz_4 : (Try.prog.info? 4).map (·.size) = some 1 := by kernel_rfl
theorem z_4 : (Try.prog.info? 4).map (·.zero) = some (some (.bool false)) := by kernel_rfl
theorem ag_4 : AggIs Try.prog 4 false := by unfold AggIs; kernel_rfl
theorem u_5 : Try.prog.underlying 5 = some (.int .u8) := by kernel_rfl
theorem sz_5 : (Try.prog.info? 5).map (·.size) = some 1 := by kernel_rfl
theorem z_5 : (Try.prog.info? 5).map (·.zero) = some (some (.int .u8 0)) := by kernel_rfl
theorem ag_5 : AggIs Try.prog 5 false := by unfold AggIs; kernel_rfl
theorem u_9 : Try.prog.underlying 9 = some .string := by kernel_rfl
theorem sz_9 : (Try.prog.info? 9).map (·.size) = some 1 := by kernel_rfl
theorem z_9 : (Try.prog.info? 9).map (·.zero) = some (some (.string ⟨#[]⟩)) := by kernel_rfl
theorem ag_9 : AggIs Try.prog 9 false := by unfold AggIs; kernel_rfl
abbrev kSl_2 : Kd (List Int) := kslice 2 8 (kint .i64)
theorem u_22 : Try.prog.underlying 22 = some (.slice 2) := by kernel_rfl
theorem ag_22 : AggIs Try.prog 22 false := by unfold AggIs; kernel_rfl
theorem z_22 : (Try.prog.info? 22).map (·.zero) = some (some (.slice none 0 0)) := by kernel_rfl
theorem sz_22 : (Try.prog.info? 22).map (·.size) = some 1 := by kernel_rfl
theorem inf_2 : (Try.prog.info? 2).map (fun i => (i.size, i.bytes, i.zero)) = some ((kint .i64).sz, 8, some (.int .i64 0)) := by kernel_rfl
def kT_129 : Kd DEnt := kiso (kpair kstr (kint .i64)) (fun x => (x.name, x.ino))
theorem sz_129 : (Try.prog.info? 129).map (·.size) = some 2 := by kernel_rfl
theorem z_129 : (Try.prog.info? 129).map (·.zero) = some (some (.agg #[.string ⟨#[]⟩, .int .i64 0])) := by kernel_rfl
theorem ag_129 : AggIs Try.prog 129 true := by unfold AggIs; kernel_rfl
theorem bl_129 : BuildOk Try.prog 129 (.agg #[.string ⟨#[]⟩, .int .i64 0]) #[(0, 1), (1, 1)] := ⟨by kernel_rfl, by kernel_rfl, fun w => by kernel_rfl⟩
theorem fa_129_0 (ad : Addr) (w : World) : (Instr.fieldAt 129 (.pointer (some ad)) 0).run Try.prog w = .ok (.pointer (some (ad.add 0))) w := by kernel_rfl
theorem fa_129_1 (ad : Addr) (w : World) : (Instr.fieldAt 129 (.pointer (some ad)) 1).run Try.prog w = .ok (.pointer (some (ad.add 1))) w := by kernel_rfl
theorem ent_gd_129 : Try.prog.eqGuardType Try.prog.depth 129 = false := by kernel_rfl
theorem ent_eq_129 (x y : DEnt) (w : World) : (Op.equalIn 10000 129 (.agg #[.string x.name, .int .i64 x.ino]) (.agg #[.string y.name, .int .i64 y.ino])).run Try.prog w = .ok (decide (x = y)) w := by
  rw [run_equalIn_struct w 9999 129 _ _ (by kernel_rfl) (by kernel_rfl)]
  rw [show (Try.prog.fieldsOf 129).toList = [(Try.prog.fieldsOf 129)[0]!, (Try.prog.fieldsOf 129)[1]!] by kernel_rfl]
  refine ((eqFs_cons (a := .string x.name) (b := .string y.name) (by kernel_rfl) (fun w => by kernel_rfl) (fun w => by kernel_rfl) (fun w => run_equalIn_string w 9998 _ x.name y.name (by kernel_rfl)) (eqFs_cons (a := .int .i64 x.ino) (b := .int .i64 y.ino) (by kernel_rfl) (fun w => by kernel_rfl) (fun w => by kernel_rfl) (fun w => run_equalIn_int w 9998 _ .i64 .i64 x.ino y.ino (by kernel_rfl)) eqFs_nil)) w).trans ?_
  congr 1; cases x; cases y; simp only [beq_str, beq_int, Bool.and_true, DEnt.mk.injEq, Bool.decide_and]
theorem kT_129_ro {w : World} {F : Bs} {x : DEnt} {cs : List Value} (h : kT_129.ro w F x cs) : cs = [.string x.name, .int .i64 x.ino] ∧ x.name.size ≤ 140737488351232 := by
  obtain ⟨_, _, rfl, ⟨rfl, s0⟩, ⟨rfl, -⟩⟩ := h
  exact ⟨rfl, s0⟩
theorem kT_129_mk {w : World} {F : Bs} (x : DEnt) (s0 : x.name.size ≤ 140737488351232) : kT_129.ro w F x [.string x.name, .int .i64 x.ino] :=
  ⟨_, _, rfl, ⟨rfl, s0⟩, ⟨rfl, trivial⟩⟩
theorem kT_129_own {w : World} {S : Bs} {x : DEnt} {cs : List Value} (h : kT_129.own w S x cs) : cs = [.string x.name, .int .i64 x.ino] ∧ Star [] w S ∧ x.name.size ≤ 140737488351232 := by
  obtain ⟨_, _, rfl, a0⟩ := h
  obtain ⟨p0, q0, b0, c0, i0, j0, k0⟩ := star2 a0
  obtain ⟨rfl, s0⟩ := b0
  obtain ⟨rfl, -⟩ := c0
  exact ⟨rfl, trivial, s0⟩
theorem kT_129_op {x : DEnt} {cs : List Value} (w : World) (S : Bs) (h : Star [ownA kT_129 x cs] w S) : ∃ g : Unit, (cs = [.string x.name, .int .i64 x.ino] ∧ x.name.size ≤ 140737488351232) ∧ Star [] w S := by
  obtain ⟨h1, h2, s0⟩ := kT_129_own (show kT_129.own w S x cs from h.head (c := ownA kT_129 x cs))
  exact ⟨(), ⟨h1, s0⟩, h2⟩
theorem kT_129_omk {w : World} {S : Bs} (x : DEnt) (h : Star [] w S) (s0 : x.name.size ≤ 140737488351232) : kT_129.own w S x [.string x.name, .int .i64 x.ino] := by
  have m1 : Mk kstr x.name [.string x.name] [] := (mk_str s0)
  have m2 : Mk (kint .i64) x.ino [.int .i64 x.ino] [] := mk_int
  have m3 : Mk (kpair kstr (kint .i64)) (x.name, x.ino) ([.string x.name] ++ [.int .i64 x.ino]) ([] ++ []) := mk_pair m1 m2
  have m0 : Mk kT_129 x ([.string x.name] ++ [.int .i64 x.ino]) ([] ++ []) := m3
  exact m0 w S h
def RA_129 (x : DEnt) (r : Value) (l : List Asn) : Prop := r = .agg #[.string x.name, .int .i64 x.ino] ∧ l = [] ∧ x.name.size ≤ 140737488351232
theorem zero_129 (w : World) (S : Bs) : kT_129.own w S (⟨⟨#[]⟩, 0⟩ : DEnt) [.string ⟨#[]⟩, .int .i64 0] := kT_129_omk (⟨⟨#[]⟩, 0⟩ : DEnt) (trivial) (by decide)
def PA_129 (g e s : Nat) (post : List Value) (x : DEnt) (r : Value) (l : List Asn) : Prop := r = .tuple #[] ∧ l = [rowA g e s 1 ((.string x.name) :: (.int .i64 x.ino) :: post)] ∧ x.name.size ≤ 140737488351232
abbrev kSl_129 : Kd (List DEnt) := kslice 129 24 kT_129
theorem u_23 : Try.prog.underlying 23 = some (.slice 129) := by kernel_rfl
theorem ag_23 : AggIs Try.prog 23 false := by unfold AggIs; kernel_rfl
theorem z_23 : (Try.prog.info? 23).map (·.zero) = some (some (.slice none 0 0)) := by kernel_rfl
theorem sz_23 : (Try.prog.info? 23).map (·.size) = some 1 := by kernel_rfl
theorem inf_129 : (Try.prog.info? 129).map (fun i => (i.size, i.bytes, i.zero)) = some (kT_129.sz, 24, some (.agg #[.string ⟨#[]⟩, .int .i64 0])) := by kernel_rfl
def kT_25 : Kd DInode := kiso (kpair (kint .i64) (kpair (kint .i64) (kpair (kint .i64) (kpair kSl_2 kSl_129)))) (fun x => (x.kind, x.links, x.size, x.blocks, x.ents))
theorem sz_25 : (Try.prog.info? 25).map (·.size) = some 5 := by kernel_rfl
theorem z_25 : (Try.prog.info? 25).map (·.zero) = some (some (.agg #[.int .i64 0, .int .i64 0, .int .i64 0, .slice none 0 0, .slice none 0 0])) := by kernel_rfl
theorem ag_25 : AggIs Try.prog 25 true := by unfold AggIs; kernel_rfl
theorem bl_25 : BuildOk Try.prog 25 (.agg #[.int .i64 0, .int .i64 0, .int .i64 0, .slice none 0 0, .slice none 0 0]) #[(0, 1), (1, 1), (2, 1), (3, 1), (4, 1)] := ⟨by kernel_rfl, by kernel_rfl, fun w => by kernel_rfl⟩
theorem fa_25_0 (ad : Addr) (w : World) : (Instr.fieldAt 25 (.pointer (some ad)) 0).run Try.prog w = .ok (.pointer (some (ad.add 0))) w := by kernel_rfl
theorem fa_25_1 (ad : Addr) (w : World) : (Instr.fieldAt 25 (.pointer (some ad)) 1).run Try.prog w = .ok (.pointer (some (ad.add 1))) w := by kernel_rfl
theorem fa_25_2 (ad : Addr) (w : World) : (Instr.fieldAt 25 (.pointer (some ad)) 2).run Try.prog w = .ok (.pointer (some (ad.add 2))) w := by kernel_rfl
theorem fa_25_3 (ad : Addr) (w : World) : (Instr.fieldAt 25 (.pointer (some ad)) 3).run Try.prog w = .ok (.pointer (some (ad.add 3))) w := by kernel_rfl
theorem fa_25_4 (ad : Addr) (w : World) : (Instr.fieldAt 25 (.pointer (some ad)) 4).run Try.prog w = .ok (.pointer (some (ad.add 4))) w := by kernel_rfl
theorem kT_25_ro {w : World} {F : Bs} {x : DInode} {cs : List Value} (h : kT_25.ro w F x cs) : ∃ v3 v4, cs = [.int .i64 x.kind, .int .i64 x.links, .int .i64 x.size, v3, v4] ∧ kSl_2.ro w F x.blocks [v3] ∧ kSl_129.ro w F x.ents [v4] := by
  obtain ⟨_, _, rfl, ⟨rfl, -⟩, ⟨_, _, rfl, ⟨rfl, -⟩, ⟨_, _, rfl, ⟨rfl, -⟩, ⟨_, _, rfl, h3, h4⟩⟩⟩⟩ := h
  obtain ⟨v3, rfl⟩ := sl_one h3
  obtain ⟨v4, rfl⟩ := sl_one h4
  exact ⟨v3, v4, rfl, h3, h4⟩
theorem kT_25_mk {w : World} {F : Bs} (x : DInode) {v3 : Value} {v4 : Value} (h3 : kSl_2.ro w F x.blocks [v3]) (h4 : kSl_129.ro w F x.ents [v4]) : kT_25.ro w F x [.int .i64 x.kind, .int .i64 x.links, .int .i64 x.size, v3, v4] :=
  ⟨_, _, rfl, ⟨rfl, trivial⟩, ⟨_, _, rfl, ⟨rfl, trivial⟩, ⟨_, _, rfl, ⟨rfl, trivial⟩, ⟨_, _, rfl, h3, h4⟩⟩⟩⟩
theorem kT_25_own {w : World} {S : Bs} {x : DInode} {cs : List Value} (h : kT_25.own w S x cs) : ∃ v3 v4, cs = [.int .i64 x.kind, .int .i64 x.links, .int .i64 x.size, v3, v4] ∧ Star [ownA kSl_2 x.blocks [v3], ownA kSl_129 x.ents [v4]] w S := by
  obtain ⟨_, _, rfl, a0⟩ := h
  obtain ⟨p0, q0, b0, c0, i0, j0, k0⟩ := star2 a0
  obtain ⟨rfl, -⟩ := b0
  obtain ⟨_, _, rfl, a1⟩ := c0
  obtain ⟨p1, q1, b1, c1, i1, j1, k1⟩ := star2 a1
  obtain ⟨rfl, -⟩ := b1
  obtain ⟨_, _, rfl, a2⟩ := c1
  obtain ⟨p2, q2, b2, c2, i2, j2, k2⟩ := star2 a2
  obtain ⟨rfl, -⟩ := b2
  obtain ⟨_, _, rfl, a3⟩ := c2
  obtain ⟨p3, q3, b3, c3, i3, j3, k3⟩ := star2 a3
  obtain ⟨v3, rfl⟩ := osl_one b3
  have g4 := Star.one (c := ownA kSl_2 x.blocks [v3]) b3
  obtain ⟨v4, rfl⟩ := osl_one c3
  have g5 := Star.one (c := ownA kSl_129 x.ents [v4]) c3
  have g6 := g4.app g5 i3 j3 k3
  have g7 := g6.up j2
  have g8 := g7.up j1
  have g9 := g8.up j0
  exact ⟨v3, v4, rfl, g9⟩
theorem kT_25_op {x : DInode} {cs : List Value} (w : World) (S : Bs) (h : Star [ownA kT_25 x cs] w S) : ∃ g : Value × Value, cs = [.int .i64 x.kind, .int .i64 x.links, .int .i64 x.size, g.1, g.2] ∧ Star [ownA kSl_2 x.blocks [g.1], ownA kSl_129 x.ents [g.2]] w S := by
  obtain ⟨v3, v4, h1, h2⟩ := kT_25_own (show kT_25.own w S x cs from h.head (c := ownA kT_25 x cs))
  exact ⟨(v3, v4), h1, h2⟩
theorem kT_25_omk {w : World} {S : Bs} (x : DInode) {v3 : Value} {v4 : Value} (h : Star [ownA kSl_2 x.blocks [v3], ownA kSl_129 x.ents [v4]] w S) : kT_25.own w S x [.int .i64 x.kind, .int .i64 x.links, .int .i64 x.size, v3, v4] := by
  have m1 : Mk (kint .i64) x.kind [.int .i64 x.kind] [] := mk_int
  have m2 : Mk (kint .i64) x.links [.int .i64 x.links] [] := mk_int
  have m3 : Mk (kint .i64) x.size [.int .i64 x.size] [] := mk_int
  have m4 : Mk kSl_2 x.blocks [v3] [ownA kSl_2 x.blocks [v3]] := mk_leaf
  have m5 : Mk kSl_129 x.ents [v4] [ownA kSl_129 x.ents [v4]] := mk_leaf
  have m6 : Mk (kpair kSl_2 kSl_129) (x.blocks, x.ents) ([v3] ++ [v4]) ([ownA kSl_2 x.blocks [v3]] ++ [ownA kSl_129 x.ents [v4]]) := mk_pair m4 m5
  have m7 : Mk (kpair (kint .i64) (kpair kSl_2 kSl_129)) (x.size, (x.blocks, x.ents)) ([.int .i64 x.size] ++ ([v3] ++ [v4])) ([] ++ ([ownA kSl_2 x.blocks [v3]] ++ [ownA kSl_129 x.ents [v4]])) := mk_pair m3 m6
  have m8 : Mk (kpair (kint .i64) (kpair (kint .i64) (kpair kSl_2 kSl_129))) (x.links, (x.size, (x.blocks, x.ents))) ([.int .i64 x.links] ++ ([.int .i64 x.size] ++ ([v3] ++ [v4]))) ([] ++ ([] ++ ([ownA kSl_2 x.blocks [v3]] ++ [ownA kSl_129 x.ents [v4]]))) := mk_pair m2 m7
  have m9 : Mk (kpair (kint .i64) (kpair (kint .i64) (kpair (kint .i64) (kpair kSl_2 kSl_129)))) (x.kind, (x.links, (x.size, (x.blocks, x.ents)))) ([.int .i64 x.kind] ++ ([.int .i64 x.links] ++ ([.int .i64 x.size] ++ ([v3] ++ [v4])))) ([] ++ ([] ++ ([] ++ ([ownA kSl_2 x.blocks [v3]] ++ [ownA kSl_129 x.ents [v4]])))) := mk_pair m1 m8
  have m0 : Mk kT_25 x ([.int .i64 x.kind] ++ ([.int .i64 x.links] ++ ([.int .i64 x.size] ++ ([v3] ++ [v4])))) ([] ++ ([] ++ ([] ++ ([ownA kSl_2 x.blocks [v3]] ++ [ownA kSl_129 x.ents [v4]])))) := m9
  exact m0 w S h
def RA_25 (x : DInode) (r : Value) (l : List Asn) : Prop := ∃ v3 v4, r = .agg #[.int .i64 x.kind, .int .i64 x.links, .int .i64 x.size, v3, v4] ∧ l = [ownA kSl_2 x.blocks [v3], ownA kSl_129 x.ents [v4]]
theorem zero_25 (w : World) (S : Bs) : kT_25.own w S (⟨0, 0, 0, [], []⟩ : DInode) [.int .i64 0, .int .i64 0, .int .i64 0, .slice none 0 0, .slice none 0 0] := kT_25_omk (⟨0, 0, 0, [], []⟩ : DInode) (⟨fun _ => False, fun _ => False, own_nil _ _ none, ⟨fun _ => False, fun _ => False, own_nil _ _ none, trivial, fun _ h => h.elim, fun _ h => h.elim, fun _ h => h.elim⟩, fun _ h => h.elim, fun _ h => h.elim, fun _ h => h.elim⟩)
def PA_25 (g e s : Nat) (post : List Value) (x : DInode) (r : Value) (l : List Asn) : Prop := ∃ v3 v4, r = .tuple #[] ∧ l = [rowA g e s 1 ((.int .i64 x.kind) :: (.int .i64 x.links) :: (.int .i64 x.size) :: v3 :: v4 :: post), ownA kSl_2 x.blocks [v3], ownA kSl_129 x.ents [v4]]
def kT_130 : Kd DEnt := kiso (kpair kstr (kint .i64)) (fun x => (x.name, x.ino))
theorem sz_130 : (Try.prog.info? 130).map (·.size) = some 2 := by kernel_rfl
theorem z_130 : (Try.prog.info? 130).map (·.zero) = some (some (.agg #[.string ⟨#[]⟩, .int .i64 0])) := by kernel_rfl
theorem ag_130 : AggIs Try.prog 130 true := by unfold AggIs; kernel_rfl
theorem bl_130 : BuildOk Try.prog 130 (.agg #[.string ⟨#[]⟩, .int .i64 0]) #[(0, 1), (1, 1)] := ⟨by kernel_rfl, by kernel_rfl, fun w => by kernel_rfl⟩
theorem fa_130_0 (ad : Addr) (w : World) : (Instr.fieldAt 130 (.pointer (some ad)) 0).run Try.prog w = .ok (.pointer (some (ad.add 0))) w := by kernel_rfl
theorem fa_130_1 (ad : Addr) (w : World) : (Instr.fieldAt 130 (.pointer (some ad)) 1).run Try.prog w = .ok (.pointer (some (ad.add 1))) w := by kernel_rfl
theorem ent_gd_130 : Try.prog.eqGuardType Try.prog.depth 130 = false := by kernel_rfl
theorem ent_eq_130 (x y : DEnt) (w : World) : (Op.equalIn 10000 130 (.agg #[.string x.name, .int .i64 x.ino]) (.agg #[.string y.name, .int .i64 y.ino])).run Try.prog w = .ok (decide (x = y)) w := by
  rw [run_equalIn_struct w 9999 130 _ _ (by kernel_rfl) (by kernel_rfl)]
  rw [show (Try.prog.fieldsOf 130).toList = [(Try.prog.fieldsOf 130)[0]!, (Try.prog.fieldsOf 130)[1]!] by kernel_rfl]
  refine ((eqFs_cons (a := .string x.name) (b := .string y.name) (by kernel_rfl) (fun w => by kernel_rfl) (fun w => by kernel_rfl) (fun w => run_equalIn_string w 9998 _ x.name y.name (by kernel_rfl)) (eqFs_cons (a := .int .i64 x.ino) (b := .int .i64 y.ino) (by kernel_rfl) (fun w => by kernel_rfl) (fun w => by kernel_rfl) (fun w => run_equalIn_int w 9998 _ .i64 .i64 x.ino y.ino (by kernel_rfl)) eqFs_nil)) w).trans ?_
  congr 1; cases x; cases y; simp only [beq_str, beq_int, Bool.and_true, DEnt.mk.injEq, Bool.decide_and]
theorem kT_130_ro {w : World} {F : Bs} {x : DEnt} {cs : List Value} (h : kT_130.ro w F x cs) : cs = [.string x.name, .int .i64 x.ino] ∧ x.name.size ≤ 140737488351232 := by
  obtain ⟨_, _, rfl, ⟨rfl, s0⟩, ⟨rfl, -⟩⟩ := h
  exact ⟨rfl, s0⟩
theorem kT_130_mk {w : World} {F : Bs} (x : DEnt) (s0 : x.name.size ≤ 140737488351232) : kT_130.ro w F x [.string x.name, .int .i64 x.ino] :=
  ⟨_, _, rfl, ⟨rfl, s0⟩, ⟨rfl, trivial⟩⟩
theorem kT_130_own {w : World} {S : Bs} {x : DEnt} {cs : List Value} (h : kT_130.own w S x cs) : cs = [.string x.name, .int .i64 x.ino] ∧ Star [] w S ∧ x.name.size ≤ 140737488351232 := by
  obtain ⟨_, _, rfl, a0⟩ := h
  obtain ⟨p0, q0, b0, c0, i0, j0, k0⟩ := star2 a0
  obtain ⟨rfl, s0⟩ := b0
  obtain ⟨rfl, -⟩ := c0
  exact ⟨rfl, trivial, s0⟩
theorem kT_130_op {x : DEnt} {cs : List Value} (w : World) (S : Bs) (h : Star [ownA kT_130 x cs] w S) : ∃ g : Unit, (cs = [.string x.name, .int .i64 x.ino] ∧ x.name.size ≤ 140737488351232) ∧ Star [] w S := by
  obtain ⟨h1, h2, s0⟩ := kT_130_own (show kT_130.own w S x cs from h.head (c := ownA kT_130 x cs))
  exact ⟨(), ⟨h1, s0⟩, h2⟩
theorem kT_130_omk {w : World} {S : Bs} (x : DEnt) (h : Star [] w S) (s0 : x.name.size ≤ 140737488351232) : kT_130.own w S x [.string x.name, .int .i64 x.ino] := by
  have m1 : Mk kstr x.name [.string x.name] [] := (mk_str s0)
  have m2 : Mk (kint .i64) x.ino [.int .i64 x.ino] [] := mk_int
  have m3 : Mk (kpair kstr (kint .i64)) (x.name, x.ino) ([.string x.name] ++ [.int .i64 x.ino]) ([] ++ []) := mk_pair m1 m2
  have m0 : Mk kT_130 x ([.string x.name] ++ [.int .i64 x.ino]) ([] ++ []) := m3
  exact m0 w S h
def RA_130 (x : DEnt) (r : Value) (l : List Asn) : Prop := r = .agg #[.string x.name, .int .i64 x.ino] ∧ l = [] ∧ x.name.size ≤ 140737488351232
theorem zero_130 (w : World) (S : Bs) : kT_130.own w S (⟨⟨#[]⟩, 0⟩ : DEnt) [.string ⟨#[]⟩, .int .i64 0] := kT_130_omk (⟨⟨#[]⟩, 0⟩ : DEnt) (trivial) (by decide)
def PA_130 (g e s : Nat) (post : List Value) (x : DEnt) (r : Value) (l : List Asn) : Prop := r = .tuple #[] ∧ l = [rowA g e s 1 ((.string x.name) :: (.int .i64 x.ino) :: post)] ∧ x.name.size ≤ 140737488351232
abbrev kSl_130 : Kd (List DEnt) := kslice 130 24 kT_130
theorem u_28 : Try.prog.underlying 28 = some (.slice 130) := by kernel_rfl
theorem ag_28 : AggIs Try.prog 28 false := by unfold AggIs; kernel_rfl
theorem z_28 : (Try.prog.info? 28).map (·.zero) = some (some (.slice none 0 0)) := by kernel_rfl
theorem sz_28 : (Try.prog.info? 28).map (·.size) = some 1 := by kernel_rfl
theorem inf_130 : (Try.prog.info? 130).map (fun i => (i.size, i.bytes, i.zero)) = some (kT_130.sz, 24, some (.agg #[.string ⟨#[]⟩, .int .i64 0])) := by kernel_rfl
def kT_30 : Kd DInode := kiso (kpair (kint .i64) (kpair (kint .i64) (kpair (kint .i64) (kpair kSl_2 kSl_130)))) (fun x => (x.kind, x.links, x.size, x.blocks, x.ents))
theorem sz_30 : (Try.prog.info? 30).map (·.size) = some 5 := by kernel_rfl
theorem z_30 : (Try.prog.info? 30).map (·.zero) = some (some (.agg #[.int .i64 0, .int .i64 0, .int .i64 0, .slice none 0 0, .slice none 0 0])) := by kernel_rfl
theorem ag_30 : AggIs Try.prog 30 true := by unfold AggIs; kernel_rfl
theorem bl_30 : BuildOk Try.prog 30 (.agg #[.int .i64 0, .int .i64 0, .int .i64 0, .slice none 0 0, .slice none 0 0]) #[(0, 1), (1, 1), (2, 1), (3, 1), (4, 1)] := ⟨by kernel_rfl, by kernel_rfl, fun w => by kernel_rfl⟩
theorem fa_30_0 (ad : Addr) (w : World) : (Instr.fieldAt 30 (.pointer (some ad)) 0).run Try.prog w = .ok (.pointer (some (ad.add 0))) w := by kernel_rfl
theorem fa_30_1 (ad : Addr) (w : World) : (Instr.fieldAt 30 (.pointer (some ad)) 1).run Try.prog w = .ok (.pointer (some (ad.add 1))) w := by kernel_rfl
theorem fa_30_2 (ad : Addr) (w : World) : (Instr.fieldAt 30 (.pointer (some ad)) 2).run Try.prog w = .ok (.pointer (some (ad.add 2))) w := by kernel_rfl
theorem fa_30_3 (ad : Addr) (w : World) : (Instr.fieldAt 30 (.pointer (some ad)) 3).run Try.prog w = .ok (.pointer (some (ad.add 3))) w := by kernel_rfl
theorem fa_30_4 (ad : Addr) (w : World) : (Instr.fieldAt 30 (.pointer (some ad)) 4).run Try.prog w = .ok (.pointer (some (ad.add 4))) w := by kernel_rfl
theorem kT_30_ro {w : World} {F : Bs} {x : DInode} {cs : List Value} (h : kT_30.ro w F x cs) : ∃ v3 v4, cs = [.int .i64 x.kind, .int .i64 x.links, .int .i64 x.size, v3, v4] ∧ kSl_2.ro w F x.blocks [v3] ∧ kSl_130.ro w F x.ents [v4] := by
  obtain ⟨_, _, rfl, ⟨rfl, -⟩, ⟨_, _, rfl, ⟨rfl, -⟩, ⟨_, _, rfl, ⟨rfl, -⟩, ⟨_, _, rfl, h3, h4⟩⟩⟩⟩ := h
  obtain ⟨v3, rfl⟩ := sl_one h3
  obtain ⟨v4, rfl⟩ := sl_one h4
  exact ⟨v3, v4, rfl, h3, h4⟩
theorem kT_30_mk {w : World} {F : Bs} (x : DInode) {v3 : Value} {v4 : Value} (h3 : kSl_2.ro w F x.blocks [v3]) (h4 : kSl_130.ro w F x.ents [v4]) : kT_30.ro w F x [.int .i64 x.kind, .int .i64 x.links, .int .i64 x.size, v3, v4] :=
  ⟨_, _, rfl, ⟨rfl, trivial⟩, ⟨_, _, rfl, ⟨rfl, trivial⟩, ⟨_, _, rfl, ⟨rfl, trivial⟩, ⟨_, _, rfl, h3, h4⟩⟩⟩⟩
theorem kT_30_own {w : World} {S : Bs} {x : DInode} {cs : List Value} (h : kT_30.own w S x cs) : ∃ v3 v4, cs = [.int .i64 x.kind, .int .i64 x.links, .int .i64 x.size, v3, v4] ∧ Star [ownA kSl_2 x.blocks [v3], ownA kSl_130 x.ents [v4]] w S := by
  obtain ⟨_, _, rfl, a0⟩ := h
  obtain ⟨p0, q0, b0, c0, i0, j0, k0⟩ := star2 a0
  obtain ⟨rfl, -⟩ := b0
  obtain ⟨_, _, rfl, a1⟩ := c0
  obtain ⟨p1, q1, b1, c1, i1, j1, k1⟩ := star2 a1
  obtain ⟨rfl, -⟩ := b1
  obtain ⟨_, _, rfl, a2⟩ := c1
  obtain ⟨p2, q2, b2, c2, i2, j2, k2⟩ := star2 a2
  obtain ⟨rfl, -⟩ := b2
  obtain ⟨_, _, rfl, a3⟩ := c2
  obtain ⟨p3, q3, b3, c3, i3, j3, k3⟩ := star2 a3
  obtain ⟨v3, rfl⟩ := osl_one b3
  have g4 := Star.one (c := ownA kSl_2 x.blocks [v3]) b3
  obtain ⟨v4, rfl⟩ := osl_one c3
  have g5 := Star.one (c := ownA kSl_130 x.ents [v4]) c3
  have g6 := g4.app g5 i3 j3 k3
  have g7 := g6.up j2
  have g8 := g7.up j1
  have g9 := g8.up j0
  exact ⟨v3, v4, rfl, g9⟩
theorem kT_30_op {x : DInode} {cs : List Value} (w : World) (S : Bs) (h : Star [ownA kT_30 x cs] w S) : ∃ g : Value × Value, cs = [.int .i64 x.kind, .int .i64 x.links, .int .i64 x.size, g.1, g.2] ∧ Star [ownA kSl_2 x.blocks [g.1], ownA kSl_130 x.ents [g.2]] w S := by
  obtain ⟨v3, v4, h1, h2⟩ := kT_30_own (show kT_30.own w S x cs from h.head (c := ownA kT_30 x cs))
  exact ⟨(v3, v4), h1, h2⟩
theorem kT_30_omk {w : World} {S : Bs} (x : DInode) {v3 : Value} {v4 : Value} (h : Star [ownA kSl_2 x.blocks [v3], ownA kSl_130 x.ents [v4]] w S) : kT_30.own w S x [.int .i64 x.kind, .int .i64 x.links, .int .i64 x.size, v3, v4] := by
  have m1 : Mk (kint .i64) x.kind [.int .i64 x.kind] [] := mk_int
  have m2 : Mk (kint .i64) x.links [.int .i64 x.links] [] := mk_int
  have m3 : Mk (kint .i64) x.size [.int .i64 x.size] [] := mk_int
  have m4 : Mk kSl_2 x.blocks [v3] [ownA kSl_2 x.blocks [v3]] := mk_leaf
  have m5 : Mk kSl_130 x.ents [v4] [ownA kSl_130 x.ents [v4]] := mk_leaf
  have m6 : Mk (kpair kSl_2 kSl_130) (x.blocks, x.ents) ([v3] ++ [v4]) ([ownA kSl_2 x.blocks [v3]] ++ [ownA kSl_130 x.ents [v4]]) := mk_pair m4 m5
  have m7 : Mk (kpair (kint .i64) (kpair kSl_2 kSl_130)) (x.size, (x.blocks, x.ents)) ([.int .i64 x.size] ++ ([v3] ++ [v4])) ([] ++ ([ownA kSl_2 x.blocks [v3]] ++ [ownA kSl_130 x.ents [v4]])) := mk_pair m3 m6
  have m8 : Mk (kpair (kint .i64) (kpair (kint .i64) (kpair kSl_2 kSl_130))) (x.links, (x.size, (x.blocks, x.ents))) ([.int .i64 x.links] ++ ([.int .i64 x.size] ++ ([v3] ++ [v4]))) ([] ++ ([] ++ ([ownA kSl_2 x.blocks [v3]] ++ [ownA kSl_130 x.ents [v4]]))) := mk_pair m2 m7
  have m9 : Mk (kpair (kint .i64) (kpair (kint .i64) (kpair (kint .i64) (kpair kSl_2 kSl_130)))) (x.kind, (x.links, (x.size, (x.blocks, x.ents)))) ([.int .i64 x.kind] ++ ([.int .i64 x.links] ++ ([.int .i64 x.size] ++ ([v3] ++ [v4])))) ([] ++ ([] ++ ([] ++ ([ownA kSl_2 x.blocks [v3]] ++ [ownA kSl_130 x.ents [v4]])))) := mk_pair m1 m8
  have m0 : Mk kT_30 x ([.int .i64 x.kind] ++ ([.int .i64 x.links] ++ ([.int .i64 x.size] ++ ([v3] ++ [v4])))) ([] ++ ([] ++ ([] ++ ([ownA kSl_2 x.blocks [v3]] ++ [ownA kSl_130 x.ents [v4]])))) := m9
  exact m0 w S h
def RA_30 (x : DInode) (r : Value) (l : List Asn) : Prop := ∃ v3 v4, r = .agg #[.int .i64 x.kind, .int .i64 x.links, .int .i64 x.size, v3, v4] ∧ l = [ownA kSl_2 x.blocks [v3], ownA kSl_130 x.ents [v4]]
theorem zero_30 (w : World) (S : Bs) : kT_30.own w S (⟨0, 0, 0, [], []⟩ : DInode) [.int .i64 0, .int .i64 0, .int .i64 0, .slice none 0 0, .slice none 0 0] := kT_30_omk (⟨0, 0, 0, [], []⟩ : DInode) (⟨fun _ => False, fun _ => False, own_nil _ _ none, ⟨fun _ => False, fun _ => False, own_nil _ _ none, trivial, fun _ h => h.elim, fun _ h => h.elim, fun _ h => h.elim⟩, fun _ h => h.elim, fun _ h => h.elim, fun _ h => h.elim⟩)
def PA_30 (g e s : Nat) (post : List Value) (x : DInode) (r : Value) (l : List Asn) : Prop := ∃ v3 v4, r = .tuple #[] ∧ l = [rowA g e s 1 ((.int .i64 x.kind) :: (.int .i64 x.links) :: (.int .i64 x.size) :: v3 :: v4 :: post), ownA kSl_2 x.blocks [v3], ownA kSl_130 x.ents [v4]]
abbrev kSl_25 : Kd (List DInode) := kslice 25 72 kT_25
theorem u_35 : Try.prog.underlying 35 = some (.slice 25) := by kernel_rfl
theorem ag_35 : AggIs Try.prog 35 false := by unfold AggIs; kernel_rfl
theorem z_35 : (Try.prog.info? 35).map (·.zero) = some (some (.slice none 0 0)) := by kernel_rfl
theorem sz_35 : (Try.prog.info? 35).map (·.size) = some 1 := by kernel_rfl
theorem inf_25 : (Try.prog.info? 25).map (fun i => (i.size, i.bytes, i.zero)) = some (kT_25.sz, 72, some (.agg #[.int .i64 0, .int .i64 0, .int .i64 0, .slice none 0 0, .slice none 0 0])) := by kernel_rfl
abbrev kSl_5 : Kd (List UInt8) := kslice 5 1 kbyte
theorem u_62 : Try.prog.underlying 62 = some (.slice 5) := by kernel_rfl
theorem ag_62 : AggIs Try.prog 62 false := by unfold AggIs; kernel_rfl
theorem z_62 : (Try.prog.info? 62).map (·.zero) = some (some (.slice none 0 0)) := by kernel_rfl
theorem sz_62 : (Try.prog.info? 62).map (·.size) = some 1 := by kernel_rfl
theorem inf_5 : (Try.prog.info? 5).map (fun i => (i.size, i.bytes, i.zero)) = some (kbyte.sz, 1, some (.int .u8 0)) := by kernel_rfl
abbrev kSl_62 : Kd (List (List UInt8)) := kslice 62 24 kSl_5
theorem u_36 : Try.prog.underlying 36 = some (.slice 62) := by kernel_rfl
theorem ag_36 : AggIs Try.prog 36 false := by unfold AggIs; kernel_rfl
theorem z_36 : (Try.prog.info? 36).map (·.zero) = some (some (.slice none 0 0)) := by kernel_rfl
theorem sz_36 : (Try.prog.info? 36).map (·.size) = some 1 := by kernel_rfl
theorem inf_62 : (Try.prog.info? 62).map (fun i => (i.size, i.bytes, i.zero)) = some (kSl_5.sz, 24, some (.slice none 0 0)) := by kernel_rfl
def kT_38 : Kd DFs := kiso (kpair kSl_25 kSl_62) (fun x => (x.inodes, x.data))
theorem sz_38 : (Try.prog.info? 38).map (·.size) = some 2 := by kernel_rfl
theorem z_38 : (Try.prog.info? 38).map (·.zero) = some (some (.agg #[.slice none 0 0, .slice none 0 0])) := by kernel_rfl
theorem ag_38 : AggIs Try.prog 38 true := by unfold AggIs; kernel_rfl
theorem bl_38 : BuildOk Try.prog 38 (.agg #[.slice none 0 0, .slice none 0 0]) #[(0, 1), (1, 1)] := ⟨by kernel_rfl, by kernel_rfl, fun w => by kernel_rfl⟩
theorem fa_38_0 (ad : Addr) (w : World) : (Instr.fieldAt 38 (.pointer (some ad)) 0).run Try.prog w = .ok (.pointer (some (ad.add 0))) w := by kernel_rfl
theorem fa_38_1 (ad : Addr) (w : World) : (Instr.fieldAt 38 (.pointer (some ad)) 1).run Try.prog w = .ok (.pointer (some (ad.add 1))) w := by kernel_rfl
theorem kT_38_ro {w : World} {F : Bs} {x : DFs} {cs : List Value} (h : kT_38.ro w F x cs) : ∃ v0 v1, cs = [v0, v1] ∧ kSl_25.ro w F x.inodes [v0] ∧ kSl_62.ro w F x.data [v1] := by
  obtain ⟨_, _, rfl, h0, h1⟩ := h
  obtain ⟨v0, rfl⟩ := sl_one h0
  obtain ⟨v1, rfl⟩ := sl_one h1
  exact ⟨v0, v1, rfl, h0, h1⟩
theorem kT_38_mk {w : World} {F : Bs} (x : DFs) {v0 : Value} {v1 : Value} (h0 : kSl_25.ro w F x.inodes [v0]) (h1 : kSl_62.ro w F x.data [v1]) : kT_38.ro w F x [v0, v1] :=
  ⟨_, _, rfl, h0, h1⟩
theorem kT_38_own {w : World} {S : Bs} {x : DFs} {cs : List Value} (h : kT_38.own w S x cs) : ∃ v0 v1, cs = [v0, v1] ∧ Star [ownA kSl_25 x.inodes [v0], ownA kSl_62 x.data [v1]] w S := by
  obtain ⟨_, _, rfl, a0⟩ := h
  obtain ⟨p0, q0, b0, c0, i0, j0, k0⟩ := star2 a0
  obtain ⟨v0, rfl⟩ := osl_one b0
  have g1 := Star.one (c := ownA kSl_25 x.inodes [v0]) b0
  obtain ⟨v1, rfl⟩ := osl_one c0
  have g2 := Star.one (c := ownA kSl_62 x.data [v1]) c0
  have g3 := g1.app g2 i0 j0 k0
  exact ⟨v0, v1, rfl, g3⟩
theorem kT_38_op {x : DFs} {cs : List Value} (w : World) (S : Bs) (h : Star [ownA kT_38 x cs] w S) : ∃ g : Value × Value, cs = [g.1, g.2] ∧ Star [ownA kSl_25 x.inodes [g.1], ownA kSl_62 x.data [g.2]] w S := by
  obtain ⟨v0, v1, h1, h2⟩ := kT_38_own (show kT_38.own w S x cs from h.head (c := ownA kT_38 x cs))
  exact ⟨(v0, v1), h1, h2⟩
theorem kT_38_omk {w : World} {S : Bs} (x : DFs) {v0 : Value} {v1 : Value} (h : Star [ownA kSl_25 x.inodes [v0], ownA kSl_62 x.data [v1]] w S) : kT_38.own w S x [v0, v1] := by
  have m1 : Mk kSl_25 x.inodes [v0] [ownA kSl_25 x.inodes [v0]] := mk_leaf
  have m2 : Mk kSl_62 x.data [v1] [ownA kSl_62 x.data [v1]] := mk_leaf
  have m3 : Mk (kpair kSl_25 kSl_62) (x.inodes, x.data) ([v0] ++ [v1]) ([ownA kSl_25 x.inodes [v0]] ++ [ownA kSl_62 x.data [v1]]) := mk_pair m1 m2
  have m0 : Mk kT_38 x ([v0] ++ [v1]) ([ownA kSl_25 x.inodes [v0]] ++ [ownA kSl_62 x.data [v1]]) := m3
  exact m0 w S h
def RA_38 (x : DFs) (r : Value) (l : List Asn) : Prop := ∃ v0 v1, r = .agg #[v0, v1] ∧ l = [ownA kSl_25 x.inodes [v0], ownA kSl_62 x.data [v1]]
theorem zero_38 (w : World) (S : Bs) : kT_38.own w S (⟨[], []⟩ : DFs) [.slice none 0 0, .slice none 0 0] := kT_38_omk (⟨[], []⟩ : DFs) (⟨fun _ => False, fun _ => False, own_nil _ _ none, ⟨fun _ => False, fun _ => False, own_nil _ _ none, trivial, fun _ h => h.elim, fun _ h => h.elim, fun _ h => h.elim⟩, fun _ h => h.elim, fun _ h => h.elim, fun _ h => h.elim⟩)
def PA_38 (g e s : Nat) (post : List Value) (x : DFs) (r : Value) (l : List Asn) : Prop := ∃ v0 v1, r = .tuple #[] ∧ l = [rowA g e s 1 (v0 :: v1 :: post), ownA kSl_25 x.inodes [v0], ownA kSl_62 x.data [v1]]
abbrev kSl_30 : Kd (List DInode) := kslice 30 72 kT_30
theorem u_41 : Try.prog.underlying 41 = some (.slice 30) := by kernel_rfl
theorem ag_41 : AggIs Try.prog 41 false := by unfold AggIs; kernel_rfl
theorem z_41 : (Try.prog.info? 41).map (·.zero) = some (some (.slice none 0 0)) := by kernel_rfl
theorem sz_41 : (Try.prog.info? 41).map (·.size) = some 1 := by kernel_rfl
theorem inf_30 : (Try.prog.info? 30).map (fun i => (i.size, i.bytes, i.zero)) = some (kT_30.sz, 72, some (.agg #[.int .i64 0, .int .i64 0, .int .i64 0, .slice none 0 0, .slice none 0 0])) := by kernel_rfl
def kT_43 : Kd DFs := kiso (kpair kSl_30 kSl_62) (fun x => (x.inodes, x.data))
theorem sz_43 : (Try.prog.info? 43).map (·.size) = some 2 := by kernel_rfl
theorem z_43 : (Try.prog.info? 43).map (·.zero) = some (some (.agg #[.slice none 0 0, .slice none 0 0])) := by kernel_rfl
theorem ag_43 : AggIs Try.prog 43 true := by unfold AggIs; kernel_rfl
theorem bl_43 : BuildOk Try.prog 43 (.agg #[.slice none 0 0, .slice none 0 0]) #[(0, 1), (1, 1)] := ⟨by kernel_rfl, by kernel_rfl, fun w => by kernel_rfl⟩
theorem fa_43_0 (ad : Addr) (w : World) : (Instr.fieldAt 43 (.pointer (some ad)) 0).run Try.prog w = .ok (.pointer (some (ad.add 0))) w := by kernel_rfl
theorem fa_43_1 (ad : Addr) (w : World) : (Instr.fieldAt 43 (.pointer (some ad)) 1).run Try.prog w = .ok (.pointer (some (ad.add 1))) w := by kernel_rfl
theorem kT_43_ro {w : World} {F : Bs} {x : DFs} {cs : List Value} (h : kT_43.ro w F x cs) : ∃ v0 v1, cs = [v0, v1] ∧ kSl_30.ro w F x.inodes [v0] ∧ kSl_62.ro w F x.data [v1] := by
  obtain ⟨_, _, rfl, h0, h1⟩ := h
  obtain ⟨v0, rfl⟩ := sl_one h0
  obtain ⟨v1, rfl⟩ := sl_one h1
  exact ⟨v0, v1, rfl, h0, h1⟩
theorem kT_43_mk {w : World} {F : Bs} (x : DFs) {v0 : Value} {v1 : Value} (h0 : kSl_30.ro w F x.inodes [v0]) (h1 : kSl_62.ro w F x.data [v1]) : kT_43.ro w F x [v0, v1] :=
  ⟨_, _, rfl, h0, h1⟩
theorem kT_43_own {w : World} {S : Bs} {x : DFs} {cs : List Value} (h : kT_43.own w S x cs) : ∃ v0 v1, cs = [v0, v1] ∧ Star [ownA kSl_30 x.inodes [v0], ownA kSl_62 x.data [v1]] w S := by
  obtain ⟨_, _, rfl, a0⟩ := h
  obtain ⟨p0, q0, b0, c0, i0, j0, k0⟩ := star2 a0
  obtain ⟨v0, rfl⟩ := osl_one b0
  have g1 := Star.one (c := ownA kSl_30 x.inodes [v0]) b0
  obtain ⟨v1, rfl⟩ := osl_one c0
  have g2 := Star.one (c := ownA kSl_62 x.data [v1]) c0
  have g3 := g1.app g2 i0 j0 k0
  exact ⟨v0, v1, rfl, g3⟩
theorem kT_43_op {x : DFs} {cs : List Value} (w : World) (S : Bs) (h : Star [ownA kT_43 x cs] w S) : ∃ g : Value × Value, cs = [g.1, g.2] ∧ Star [ownA kSl_30 x.inodes [g.1], ownA kSl_62 x.data [g.2]] w S := by
  obtain ⟨v0, v1, h1, h2⟩ := kT_43_own (show kT_43.own w S x cs from h.head (c := ownA kT_43 x cs))
  exact ⟨(v0, v1), h1, h2⟩
theorem kT_43_omk {w : World} {S : Bs} (x : DFs) {v0 : Value} {v1 : Value} (h : Star [ownA kSl_30 x.inodes [v0], ownA kSl_62 x.data [v1]] w S) : kT_43.own w S x [v0, v1] := by
  have m1 : Mk kSl_30 x.inodes [v0] [ownA kSl_30 x.inodes [v0]] := mk_leaf
  have m2 : Mk kSl_62 x.data [v1] [ownA kSl_62 x.data [v1]] := mk_leaf
  have m3 : Mk (kpair kSl_30 kSl_62) (x.inodes, x.data) ([v0] ++ [v1]) ([ownA kSl_30 x.inodes [v0]] ++ [ownA kSl_62 x.data [v1]]) := mk_pair m1 m2
  have m0 : Mk kT_43 x ([v0] ++ [v1]) ([ownA kSl_30 x.inodes [v0]] ++ [ownA kSl_62 x.data [v1]]) := m3
  exact m0 w S h
def RA_43 (x : DFs) (r : Value) (l : List Asn) : Prop := ∃ v0 v1, r = .agg #[v0, v1] ∧ l = [ownA kSl_30 x.inodes [v0], ownA kSl_62 x.data [v1]]
theorem zero_43 (w : World) (S : Bs) : kT_43.own w S (⟨[], []⟩ : DFs) [.slice none 0 0, .slice none 0 0] := kT_43_omk (⟨[], []⟩ : DFs) (⟨fun _ => False, fun _ => False, own_nil _ _ none, ⟨fun _ => False, fun _ => False, own_nil _ _ none, trivial, fun _ h => h.elim, fun _ h => h.elim, fun _ h => h.elim⟩, fun _ h => h.elim, fun _ h => h.elim, fun _ h => h.elim⟩)
def PA_43 (g e s : Nat) (post : List Value) (x : DFs) (r : Value) (l : List Asn) : Prop := ∃ v0 v1, r = .tuple #[] ∧ l = [rowA g e s 1 (v0 :: v1 :: post), ownA kSl_30 x.inodes [v0], ownA kSl_62 x.data [v1]]
def kT_48 : Kd RInt := kiso (kpair (kint .i64) (kint .i64)) (fun x => (x.code, x.val))
theorem sz_48 : (Try.prog.info? 48).map (·.size) = some 2 := by kernel_rfl
theorem z_48 : (Try.prog.info? 48).map (·.zero) = some (some (.agg #[.int .i64 0, .int .i64 0])) := by kernel_rfl
theorem ag_48 : AggIs Try.prog 48 true := by unfold AggIs; kernel_rfl
theorem bl_48 : BuildOk Try.prog 48 (.agg #[.int .i64 0, .int .i64 0]) #[(0, 1), (1, 1)] := ⟨by kernel_rfl, by kernel_rfl, fun w => by kernel_rfl⟩
theorem fa_48_0 (ad : Addr) (w : World) : (Instr.fieldAt 48 (.pointer (some ad)) 0).run Try.prog w = .ok (.pointer (some (ad.add 0))) w := by kernel_rfl
theorem fa_48_1 (ad : Addr) (w : World) : (Instr.fieldAt 48 (.pointer (some ad)) 1).run Try.prog w = .ok (.pointer (some (ad.add 1))) w := by kernel_rfl
theorem ent_gd_48 : Try.prog.eqGuardType Try.prog.depth 48 = false := by kernel_rfl
theorem ent_eq_48 (x y : RInt) (w : World) : (Op.equalIn 10000 48 (.agg #[.int .i64 x.code, .int .i64 x.val]) (.agg #[.int .i64 y.code, .int .i64 y.val])).run Try.prog w = .ok (decide (x = y)) w := by
  rw [run_equalIn_struct w 9999 48 _ _ (by kernel_rfl) (by kernel_rfl)]
  rw [show (Try.prog.fieldsOf 48).toList = [(Try.prog.fieldsOf 48)[0]!, (Try.prog.fieldsOf 48)[1]!] by kernel_rfl]
  refine ((eqFs_cons (a := .int .i64 x.code) (b := .int .i64 y.code) (by kernel_rfl) (fun w => by kernel_rfl) (fun w => by kernel_rfl) (fun w => run_equalIn_int w 9998 _ .i64 .i64 x.code y.code (by kernel_rfl)) (eqFs_cons (a := .int .i64 x.val) (b := .int .i64 y.val) (by kernel_rfl) (fun w => by kernel_rfl) (fun w => by kernel_rfl) (fun w => run_equalIn_int w 9998 _ .i64 .i64 x.val y.val (by kernel_rfl)) eqFs_nil)) w).trans ?_
  congr 1; cases x; cases y; simp only [beq_str, beq_int, Bool.and_true, RInt.mk.injEq, Bool.decide_and]
theorem kT_48_ro {w : World} {F : Bs} {x : RInt} {cs : List Value} (h : kT_48.ro w F x cs) : cs = [.int .i64 x.code, .int .i64 x.val] := by
  obtain ⟨_, _, rfl, ⟨rfl, -⟩, ⟨rfl, -⟩⟩ := h
  exact rfl
theorem kT_48_mk {w : World} {F : Bs} (x : RInt) : kT_48.ro w F x [.int .i64 x.code, .int .i64 x.val] :=
  ⟨_, _, rfl, ⟨rfl, trivial⟩, ⟨rfl, trivial⟩⟩
theorem kT_48_own {w : World} {S : Bs} {x : RInt} {cs : List Value} (h : kT_48.own w S x cs) : cs = [.int .i64 x.code, .int .i64 x.val] ∧ Star [] w S := by
  obtain ⟨_, _, rfl, a0⟩ := h
  obtain ⟨p0, q0, b0, c0, i0, j0, k0⟩ := star2 a0
  obtain ⟨rfl, -⟩ := b0
  obtain ⟨rfl, -⟩ := c0
  exact ⟨rfl, trivial⟩
theorem kT_48_op {x : RInt} {cs : List Value} (w : World) (S : Bs) (h : Star [ownA kT_48 x cs] w S) : ∃ g : Unit, cs = [.int .i64 x.code, .int .i64 x.val] ∧ Star [] w S := by
  obtain ⟨h1, h2⟩ := kT_48_own (show kT_48.own w S x cs from h.head (c := ownA kT_48 x cs))
  exact ⟨(), h1, h2⟩
theorem kT_48_omk {w : World} {S : Bs} (x : RInt) (h : Star [] w S) : kT_48.own w S x [.int .i64 x.code, .int .i64 x.val] := by
  have m1 : Mk (kint .i64) x.code [.int .i64 x.code] [] := mk_int
  have m2 : Mk (kint .i64) x.val [.int .i64 x.val] [] := mk_int
  have m3 : Mk (kpair (kint .i64) (kint .i64)) (x.code, x.val) ([.int .i64 x.code] ++ [.int .i64 x.val]) ([] ++ []) := mk_pair m1 m2
  have m0 : Mk kT_48 x ([.int .i64 x.code] ++ [.int .i64 x.val]) ([] ++ []) := m3
  exact m0 w S h
def RA_48 (x : RInt) (r : Value) (l : List Asn) : Prop := r = .agg #[.int .i64 x.code, .int .i64 x.val] ∧ l = []
theorem zero_48 (w : World) (S : Bs) : kT_48.own w S (⟨0, 0⟩ : RInt) [.int .i64 0, .int .i64 0] := kT_48_omk (⟨0, 0⟩ : RInt) (trivial)
def PA_48 (g e s : Nat) (post : List Value) (x : RInt) (r : Value) (l : List Asn) : Prop := r = .tuple #[] ∧ l = [rowA g e s 1 ((.int .i64 x.code) :: (.int .i64 x.val) :: post)]
def kT_57 : Kd RInts := kiso (kpair (kint .i64) kSl_2) (fun x => (x.code, x.list))
theorem sz_57 : (Try.prog.info? 57).map (·.size) = some 2 := by kernel_rfl
theorem z_57 : (Try.prog.info? 57).map (·.zero) = some (some (.agg #[.int .i64 0, .slice none 0 0])) := by kernel_rfl
theorem ag_57 : AggIs Try.prog 57 true := by unfold AggIs; kernel_rfl
theorem bl_57 : BuildOk Try.prog 57 (.agg #[.int .i64 0, .slice none 0 0]) #[(0, 1), (1, 1)] := ⟨by kernel_rfl, by kernel_rfl, fun w => by kernel_rfl⟩
theorem fa_57_0 (ad : Addr) (w : World) : (Instr.fieldAt 57 (.pointer (some ad)) 0).run Try.prog w = .ok (.pointer (some (ad.add 0))) w := by kernel_rfl
theorem fa_57_1 (ad : Addr) (w : World) : (Instr.fieldAt 57 (.pointer (some ad)) 1).run Try.prog w = .ok (.pointer (some (ad.add 1))) w := by kernel_rfl
theorem kT_57_ro {w : World} {F : Bs} {x : RInts} {cs : List Value} (h : kT_57.ro w F x cs) : ∃ v1, cs = [.int .i64 x.code, v1] ∧ kSl_2.ro w F x.list [v1] := by
  obtain ⟨_, _, rfl, ⟨rfl, -⟩, h1⟩ := h
  obtain ⟨v1, rfl⟩ := sl_one h1
  exact ⟨v1, rfl, h1⟩
theorem kT_57_mk {w : World} {F : Bs} (x : RInts) {v1 : Value} (h1 : kSl_2.ro w F x.list [v1]) : kT_57.ro w F x [.int .i64 x.code, v1] :=
  ⟨_, _, rfl, ⟨rfl, trivial⟩, h1⟩
theorem kT_57_own {w : World} {S : Bs} {x : RInts} {cs : List Value} (h : kT_57.own w S x cs) : ∃ v1, cs = [.int .i64 x.code, v1] ∧ Star [ownA kSl_2 x.list [v1]] w S := by
  obtain ⟨_, _, rfl, a0⟩ := h
  obtain ⟨p0, q0, b0, c0, i0, j0, k0⟩ := star2 a0
  obtain ⟨rfl, -⟩ := b0
  obtain ⟨v1, rfl⟩ := osl_one c0
  have g1 := Star.one (c := ownA kSl_2 x.list [v1]) c0
  have g2 := g1.up j0
  exact ⟨v1, rfl, g2⟩
theorem kT_57_op {x : RInts} {cs : List Value} (w : World) (S : Bs) (h : Star [ownA kT_57 x cs] w S) : ∃ g : Value, cs = [.int .i64 x.code, g] ∧ Star [ownA kSl_2 x.list [g]] w S := by
  obtain ⟨v1, h1, h2⟩ := kT_57_own (show kT_57.own w S x cs from h.head (c := ownA kT_57 x cs))
  exact ⟨(v1), h1, h2⟩
theorem kT_57_omk {w : World} {S : Bs} (x : RInts) {v1 : Value} (h : Star [ownA kSl_2 x.list [v1]] w S) : kT_57.own w S x [.int .i64 x.code, v1] := by
  have m1 : Mk (kint .i64) x.code [.int .i64 x.code] [] := mk_int
  have m2 : Mk kSl_2 x.list [v1] [ownA kSl_2 x.list [v1]] := mk_leaf
  have m3 : Mk (kpair (kint .i64) kSl_2) (x.code, x.list) ([.int .i64 x.code] ++ [v1]) ([] ++ [ownA kSl_2 x.list [v1]]) := mk_pair m1 m2
  have m0 : Mk kT_57 x ([.int .i64 x.code] ++ [v1]) ([] ++ [ownA kSl_2 x.list [v1]]) := m3
  exact m0 w S h
def RA_57 (x : RInts) (r : Value) (l : List Asn) : Prop := ∃ v1, r = .agg #[.int .i64 x.code, v1] ∧ l = [ownA kSl_2 x.list [v1]]
theorem zero_57 (w : World) (S : Bs) : kT_57.own w S (⟨0, []⟩ : RInts) [.int .i64 0, .slice none 0 0] := kT_57_omk (⟨0, []⟩ : RInts) (⟨fun _ => False, fun _ => False, own_nil _ _ none, trivial, fun _ h => h.elim, fun _ h => h.elim, fun _ h => h.elim⟩)
def PA_57 (g e s : Nat) (post : List Value) (x : RInts) (r : Value) (l : List Asn) : Prop := ∃ v1, r = .tuple #[] ∧ l = [rowA g e s 1 ((.int .i64 x.code) :: v1 :: post), ownA kSl_2 x.list [v1]]
def kT_66 : Kd RInode := kiso (kpair (kint .i64) kT_30) (fun x => (x.code, x.inode))
theorem sz_66 : (Try.prog.info? 66).map (·.size) = some 6 := by kernel_rfl
theorem z_66 : (Try.prog.info? 66).map (·.zero) = some (some (.agg #[.int .i64 0, .int .i64 0, .int .i64 0, .int .i64 0, .slice none 0 0, .slice none 0 0])) := by kernel_rfl
theorem ag_66 : AggIs Try.prog 66 true := by unfold AggIs; kernel_rfl
theorem bl_66 : BuildOk Try.prog 66 (.agg #[.int .i64 0, .int .i64 0, .int .i64 0, .int .i64 0, .slice none 0 0, .slice none 0 0]) #[(0, 1), (1, 5)] := ⟨by kernel_rfl, by kernel_rfl, fun w => by kernel_rfl⟩
theorem fa_66_0 (ad : Addr) (w : World) : (Instr.fieldAt 66 (.pointer (some ad)) 0).run Try.prog w = .ok (.pointer (some (ad.add 0))) w := by kernel_rfl
theorem fa_66_1 (ad : Addr) (w : World) : (Instr.fieldAt 66 (.pointer (some ad)) 1).run Try.prog w = .ok (.pointer (some (ad.add 1))) w := by kernel_rfl
theorem kT_66_ro {w : World} {F : Bs} {x : RInode} {cs : List Value} (h : kT_66.ro w F x cs) : ∃ v4 v5, cs = [.int .i64 x.code, .int .i64 x.inode.kind, .int .i64 x.inode.links, .int .i64 x.inode.size, v4, v5] ∧ kSl_2.ro w F x.inode.blocks [v4] ∧ kSl_130.ro w F x.inode.ents [v5] := by
  obtain ⟨_, _, rfl, ⟨rfl, -⟩, ⟨_, _, rfl, ⟨rfl, -⟩, ⟨_, _, rfl, ⟨rfl, -⟩, ⟨_, _, rfl, ⟨rfl, -⟩, ⟨_, _, rfl, h4, h5⟩⟩⟩⟩⟩ := h
  obtain ⟨v4, rfl⟩ := sl_one h4
  obtain ⟨v5, rfl⟩ := sl_one h5
  exact ⟨v4, v5, rfl, h4, h5⟩
theorem kT_66_mk {w : World} {F : Bs} (x : RInode) {v4 : Value} {v5 : Value} (h4 : kSl_2.ro w F x.inode.blocks [v4]) (h5 : kSl_130.ro w F x.inode.ents [v5]) : kT_66.ro w F x [.int .i64 x.code, .int .i64 x.inode.kind, .int .i64 x.inode.links, .int .i64 x.inode.size, v4, v5] :=
  ⟨_, _, rfl, ⟨rfl, trivial⟩, ⟨_, _, rfl, ⟨rfl, trivial⟩, ⟨_, _, rfl, ⟨rfl, trivial⟩, ⟨_, _, rfl, ⟨rfl, trivial⟩, ⟨_, _, rfl, h4, h5⟩⟩⟩⟩⟩
theorem kT_66_own {w : World} {S : Bs} {x : RInode} {cs : List Value} (h : kT_66.own w S x cs) : ∃ v4 v5, cs = [.int .i64 x.code, .int .i64 x.inode.kind, .int .i64 x.inode.links, .int .i64 x.inode.size, v4, v5] ∧ Star [ownA kSl_2 x.inode.blocks [v4], ownA kSl_130 x.inode.ents [v5]] w S := by
  obtain ⟨_, _, rfl, a0⟩ := h
  obtain ⟨p0, q0, b0, c0, i0, j0, k0⟩ := star2 a0
  obtain ⟨rfl, -⟩ := b0
  obtain ⟨_, _, rfl, a1⟩ := c0
  obtain ⟨p1, q1, b1, c1, i1, j1, k1⟩ := star2 a1
  obtain ⟨rfl, -⟩ := b1
  obtain ⟨_, _, rfl, a2⟩ := c1
  obtain ⟨p2, q2, b2, c2, i2, j2, k2⟩ := star2 a2
  obtain ⟨rfl, -⟩ := b2
  obtain ⟨_, _, rfl, a3⟩ := c2
  obtain ⟨p3, q3, b3, c3, i3, j3, k3⟩ := star2 a3
  obtain ⟨rfl, -⟩ := b3
  obtain ⟨_, _, rfl, a4⟩ := c3
  obtain ⟨p4, q4, b4, c4, i4, j4, k4⟩ := star2 a4
  obtain ⟨v4, rfl⟩ := osl_one b4
  have g5 := Star.one (c := ownA kSl_2 x.inode.blocks [v4]) b4
  obtain ⟨v5, rfl⟩ := osl_one c4
  have g6 := Star.one (c := ownA kSl_130 x.inode.ents [v5]) c4
  have g7 := g5.app g6 i4 j4 k4
  have g8 := g7.up j3
  have g9 := g8.up j2
  have g10 := g9.up j1
  have g11 := g10.up j0
  exact ⟨v4, v5, rfl, g11⟩
theorem kT_66_op {x : RInode} {cs : List Value} (w : World) (S : Bs) (h : Star [ownA kT_66 x cs] w S) : ∃ g : Value × Value, cs = [.int .i64 x.code, .int .i64 x.inode.kind, .int .i64 x.inode.links, .int .i64 x.inode.size, g.1, g.2] ∧ Star [ownA kSl_2 x.inode.blocks [g.1], ownA kSl_130 x.inode.ents [g.2]] w S := by
  obtain ⟨v4, v5, h1, h2⟩ := kT_66_own (show kT_66.own w S x cs from h.head (c := ownA kT_66 x cs))
  exact ⟨(v4, v5), h1, h2⟩
theorem kT_66_omk {w : World} {S : Bs} (x : RInode) {v4 : Value} {v5 : Value} (h : Star [ownA kSl_2 x.inode.blocks [v4], ownA kSl_130 x.inode.ents [v5]] w S) : kT_66.own w S x [.int .i64 x.code, .int .i64 x.inode.kind, .int .i64 x.inode.links, .int .i64 x.inode.size, v4, v5] := by
  have m1 : Mk (kint .i64) x.code [.int .i64 x.code] [] := mk_int
  have m3 : Mk (kint .i64) x.inode.kind [.int .i64 x.inode.kind] [] := mk_int
  have m4 : Mk (kint .i64) x.inode.links [.int .i64 x.inode.links] [] := mk_int
  have m5 : Mk (kint .i64) x.inode.size [.int .i64 x.inode.size] [] := mk_int
  have m6 : Mk kSl_2 x.inode.blocks [v4] [ownA kSl_2 x.inode.blocks [v4]] := mk_leaf
  have m7 : Mk kSl_130 x.inode.ents [v5] [ownA kSl_130 x.inode.ents [v5]] := mk_leaf
  have m8 : Mk (kpair kSl_2 kSl_130) (x.inode.blocks, x.inode.ents) ([v4] ++ [v5]) ([ownA kSl_2 x.inode.blocks [v4]] ++ [ownA kSl_130 x.inode.ents [v5]]) := mk_pair m6 m7
  have m9 : Mk (kpair (kint .i64) (kpair kSl_2 kSl_130)) (x.inode.size, (x.inode.blocks, x.inode.ents)) ([.int .i64 x.inode.size] ++ ([v4] ++ [v5])) ([] ++ ([ownA kSl_2 x.inode.blocks [v4]] ++ [ownA kSl_130 x.inode.ents [v5]])) := mk_pair m5 m8
  have m10 : Mk (kpair (kint .i64) (kpair (kint .i64) (kpair kSl_2 kSl_130))) (x.inode.links, (x.inode.size, (x.inode.blocks, x.inode.ents))) ([.int .i64 x.inode.links] ++ ([.int .i64 x.inode.size] ++ ([v4] ++ [v5]))) ([] ++ ([] ++ ([ownA kSl_2 x.inode.blocks [v4]] ++ [ownA kSl_130 x.inode.ents [v5]]))) := mk_pair m4 m9
  have m11 : Mk (kpair (kint .i64) (kpair (kint .i64) (kpair (kint .i64) (kpair kSl_2 kSl_130)))) (x.inode.kind, (x.inode.links, (x.inode.size, (x.inode.blocks, x.inode.ents)))) ([.int .i64 x.inode.kind] ++ ([.int .i64 x.inode.links] ++ ([.int .i64 x.inode.size] ++ ([v4] ++ [v5])))) ([] ++ ([] ++ ([] ++ ([ownA kSl_2 x.inode.blocks [v4]] ++ [ownA kSl_130 x.inode.ents [v5]])))) := mk_pair m3 m10
  have m2 : Mk kT_30 x.inode ([.int .i64 x.inode.kind] ++ ([.int .i64 x.inode.links] ++ ([.int .i64 x.inode.size] ++ ([v4] ++ [v5])))) ([] ++ ([] ++ ([] ++ ([ownA kSl_2 x.inode.blocks [v4]] ++ [ownA kSl_130 x.inode.ents [v5]])))) := m11
  have m12 : Mk (kpair (kint .i64) kT_30) (x.code, x.inode) ([.int .i64 x.code] ++ ([.int .i64 x.inode.kind] ++ ([.int .i64 x.inode.links] ++ ([.int .i64 x.inode.size] ++ ([v4] ++ [v5]))))) ([] ++ ([] ++ ([] ++ ([] ++ ([ownA kSl_2 x.inode.blocks [v4]] ++ [ownA kSl_130 x.inode.ents [v5]]))))) := mk_pair m1 m2
  have m0 : Mk kT_66 x ([.int .i64 x.code] ++ ([.int .i64 x.inode.kind] ++ ([.int .i64 x.inode.links] ++ ([.int .i64 x.inode.size] ++ ([v4] ++ [v5]))))) ([] ++ ([] ++ ([] ++ ([] ++ ([ownA kSl_2 x.inode.blocks [v4]] ++ [ownA kSl_130 x.inode.ents [v5]]))))) := m12
  exact m0 w S h
def RA_66 (x : RInode) (r : Value) (l : List Asn) : Prop := ∃ v4 v5, r = .agg #[.int .i64 x.code, .int .i64 x.inode.kind, .int .i64 x.inode.links, .int .i64 x.inode.size, v4, v5] ∧ l = [ownA kSl_2 x.inode.blocks [v4], ownA kSl_130 x.inode.ents [v5]]
theorem zero_66 (w : World) (S : Bs) : kT_66.own w S (⟨0, (⟨0, 0, 0, [], []⟩ : DInode)⟩ : RInode) [.int .i64 0, .int .i64 0, .int .i64 0, .int .i64 0, .slice none 0 0, .slice none 0 0] := kT_66_omk (⟨0, (⟨0, 0, 0, [], []⟩ : DInode)⟩ : RInode) (⟨fun _ => False, fun _ => False, own_nil _ _ none, ⟨fun _ => False, fun _ => False, own_nil _ _ none, trivial, fun _ h => h.elim, fun _ h => h.elim, fun _ h => h.elim⟩, fun _ h => h.elim, fun _ h => h.elim, fun _ h => h.elim⟩)
def PA_66 (g e s : Nat) (post : List Value) (x : RInode) (r : Value) (l : List Asn) : Prop := ∃ v4 v5, r = .tuple #[] ∧ l = [rowA g e s 1 ((.int .i64 x.code) :: (.int .i64 x.inode.kind) :: (.int .i64 x.inode.links) :: (.int .i64 x.inode.size) :: v4 :: v5 :: post), ownA kSl_2 x.inode.blocks [v4], ownA kSl_130 x.inode.ents [v5]]
def kT_140 : Kd DSrc := kiso (kpair kSl_5 (kint .i64)) (fun x => (x.code, x.at_))
theorem sz_140 : (Try.prog.info? 140).map (·.size) = some 2 := by kernel_rfl
theorem z_140 : (Try.prog.info? 140).map (·.zero) = some (some (.agg #[.slice none 0 0, .int .i64 0])) := by kernel_rfl
theorem ag_140 : AggIs Try.prog 140 true := by unfold AggIs; kernel_rfl
theorem bl_140 : BuildOk Try.prog 140 (.agg #[.slice none 0 0, .int .i64 0]) #[(0, 1), (1, 1)] := ⟨by kernel_rfl, by kernel_rfl, fun w => by kernel_rfl⟩
theorem fa_140_0 (ad : Addr) (w : World) : (Instr.fieldAt 140 (.pointer (some ad)) 0).run Try.prog w = .ok (.pointer (some (ad.add 0))) w := by kernel_rfl
theorem fa_140_1 (ad : Addr) (w : World) : (Instr.fieldAt 140 (.pointer (some ad)) 1).run Try.prog w = .ok (.pointer (some (ad.add 1))) w := by kernel_rfl
theorem kT_140_ro {w : World} {F : Bs} {x : DSrc} {cs : List Value} (h : kT_140.ro w F x cs) : ∃ v0, cs = [v0, .int .i64 x.at_] ∧ kSl_5.ro w F x.code [v0] := by
  obtain ⟨_, _, rfl, h0, ⟨rfl, -⟩⟩ := h
  obtain ⟨v0, rfl⟩ := sl_one h0
  exact ⟨v0, rfl, h0⟩
theorem kT_140_mk {w : World} {F : Bs} (x : DSrc) {v0 : Value} (h0 : kSl_5.ro w F x.code [v0]) : kT_140.ro w F x [v0, .int .i64 x.at_] :=
  ⟨_, _, rfl, h0, ⟨rfl, trivial⟩⟩
theorem kT_140_own {w : World} {S : Bs} {x : DSrc} {cs : List Value} (h : kT_140.own w S x cs) : ∃ v0, cs = [v0, .int .i64 x.at_] ∧ Star [ownA kSl_5 x.code [v0]] w S := by
  obtain ⟨_, _, rfl, a0⟩ := h
  obtain ⟨p0, q0, b0, c0, i0, j0, k0⟩ := star2 a0
  obtain ⟨v0, rfl⟩ := osl_one b0
  have g1 := Star.one (c := ownA kSl_5 x.code [v0]) b0
  obtain ⟨rfl, -⟩ := c0
  have g2 := g1.up i0
  exact ⟨v0, rfl, g2⟩
theorem kT_140_op {x : DSrc} {cs : List Value} (w : World) (S : Bs) (h : Star [ownA kT_140 x cs] w S) : ∃ g : Value, cs = [g, .int .i64 x.at_] ∧ Star [ownA kSl_5 x.code [g]] w S := by
  obtain ⟨v0, h1, h2⟩ := kT_140_own (show kT_140.own w S x cs from h.head (c := ownA kT_140 x cs))
  exact ⟨(v0), h1, h2⟩
theorem kT_140_omk {w : World} {S : Bs} (x : DSrc) {v0 : Value} (h : Star [ownA kSl_5 x.code [v0]] w S) : kT_140.own w S x [v0, .int .i64 x.at_] := by
  have m1 : Mk kSl_5 x.code [v0] [ownA kSl_5 x.code [v0]] := mk_leaf
  have m2 : Mk (kint .i64) x.at_ [.int .i64 x.at_] [] := mk_int
  have m3 : Mk (kpair kSl_5 (kint .i64)) (x.code, x.at_) ([v0] ++ [.int .i64 x.at_]) ([ownA kSl_5 x.code [v0]] ++ []) := mk_pair m1 m2
  have m0 : Mk kT_140 x ([v0] ++ [.int .i64 x.at_]) ([ownA kSl_5 x.code [v0]] ++ []) := m3
  exact m0 w S h
def RA_140 (x : DSrc) (r : Value) (l : List Asn) : Prop := ∃ v0, r = .agg #[v0, .int .i64 x.at_] ∧ l = [ownA kSl_5 x.code [v0]]
theorem zero_140 (w : World) (S : Bs) : kT_140.own w S (⟨[], 0⟩ : DSrc) [.slice none 0 0, .int .i64 0] := kT_140_omk (⟨[], 0⟩ : DSrc) (⟨fun _ => False, fun _ => False, own_nil _ _ none, trivial, fun _ h => h.elim, fun _ h => h.elim, fun _ h => h.elim⟩)
def PA_140 (g e s : Nat) (post : List Value) (x : DSrc) (r : Value) (l : List Asn) : Prop := ∃ v0, r = .tuple #[] ∧ l = [rowA g e s 1 (v0 :: (.int .i64 x.at_) :: post), ownA kSl_5 x.code [v0]]
abbrev kSl_9 : Kd (List ByteArray) := kslice 9 16 kstr
theorem u_141 : Try.prog.underlying 141 = some (.slice 9) := by kernel_rfl
theorem ag_141 : AggIs Try.prog 141 false := by unfold AggIs; kernel_rfl
theorem z_141 : (Try.prog.info? 141).map (·.zero) = some (some (.slice none 0 0)) := by kernel_rfl
theorem sz_141 : (Try.prog.info? 141).map (·.size) = some 1 := by kernel_rfl
theorem inf_9 : (Try.prog.info? 9).map (fun i => (i.size, i.bytes, i.zero)) = some (kstr.sz, 16, some (.string ⟨#[]⟩)) := by kernel_rfl
theorem u_150 : Try.prog.underlying 150 = some (.int .u64) := by kernel_rfl
theorem sz_150 : (Try.prog.info? 150).map (·.size) = some 1 := by kernel_rfl
theorem z_150 : (Try.prog.info? 150).map (·.zero) = some (some (.int .u64 0)) := by kernel_rfl
theorem ag_150 : AggIs Try.prog 150 false := by unfold AggIs; kernel_rfl
theorem u_154 : Try.prog.underlying 154 = some (.int .i64) := by kernel_rfl
theorem sz_154 : (Try.prog.info? 154).map (·.size) = some 1 := by kernel_rfl
theorem z_154 : (Try.prog.info? 154).map (·.zero) = some (some (.int .i64 0)) := by kernel_rfl
theorem ag_154 : AggIs Try.prog 154 false := by unfold AggIs; kernel_rfl
theorem u_163 : Try.prog.underlying 163 = some (.int .u32) := by kernel_rfl
theorem sz_163 : (Try.prog.info? 163).map (·.size) = some 1 := by kernel_rfl
theorem z_163 : (Try.prog.info? 163).map (·.zero) = some (some (.int .u32 0)) := by kernel_rfl
theorem ag_163 : AggIs Try.prog 163 false := by unfold AggIs; kernel_rfl
theorem u_165 : Try.prog.underlying 165 = some (.int .u64) := by kernel_rfl
theorem sz_165 : (Try.prog.info? 165).map (·.size) = some 1 := by kernel_rfl
theorem z_165 : (Try.prog.info? 165).map (·.zero) = some (some (.int .u64 0)) := by kernel_rfl
theorem ag_165 : AggIs Try.prog 165 false := by unfold AggIs; kernel_rfl
theorem u_166 : Try.prog.underlying 166 = some (.int .u64) := by kernel_rfl
theorem sz_166 : (Try.prog.info? 166).map (·.size) = some 1 := by kernel_rfl
theorem z_166 : (Try.prog.info? 166).map (·.zero) = some (some (.int .u64 0)) := by kernel_rfl
theorem ag_166 : AggIs Try.prog 166 false := by unfold AggIs; kernel_rfl
end Go.Proofs.Ytoaebcjjfojfeaa

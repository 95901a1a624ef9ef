/- What is proved: the kinds of this program's types, laid open and put together; facts on its types. No condition. -/
import Derived.Test.YtbcdcakcmdcafaaGreatProg
import Derived.Test.YtbcdcakcmdcafaaGreatBase0
import Derived.Test.YtbcdcakcmdcafaaGreatBase1
namespace Go.Proofs.YtbcdcakcmdcafaaGreat
open Go Go.RowKit
set_option maxRecDepth 100000
set_option linter.unusedVariables false
set_option linter.unusedSimpArgs false
theorem u_2 : Tryz.prog.underlying 2 = some (.int .i64) := by kernel_rfl
theorem sz_2 : (Tryz.prog.info? 2).map (·.size) = some 1 := by kernel_rfl
theorem z_2 : (Tryz.prog.info? 2).map (·.zero) = some (some (.int .i64 0)) := by kernel_rfl
theorem ag_2 : AggIs Tryz.prog 2 false := by unfold AggIs; kernel_rfl
theorem u_3 : Tryz.prog.underlying 3 = some (.int .i64) := by kernel_rfl
theorem sz_3 : (Tryz.prog.info? 3).map (·.size) = some 1 := by kernel_rfl
theorem z_3 : (Tryz.prog.info? 3).map (·.zero) = some (some (.int .i64 0)) := by kernel_rfl
theorem ag_3 : AggIs Tryz.prog 3 false := by unfold AggIs; kernel_rfl
theorem u_4 : Tryz.prog.underlying 4 = some .bool := by kernel_rfl
theorem sz_4 : (Tryz.prog.info? 4).map (·.size) = some 1 := by kernel_rfl
theorem z_4 : (Tryz.prog.info? 4).map (·.zero) = some (some (.bool false)) := by kernel_rfl
theorem ag_4 : AggIs Tryz.prog 4 false := by unfold AggIs; kernel_rfl
theorem u_5 : Tryz.prog.underlying 5 = some (.int .u8) := by kernel_rfl
theorem sz_5 : (Tryz.prog.info? 5).map (·.size) = some 1 := by kernel_rfl
theorem z_5 : (Tryz.prog.info? 5).map (·.zero) = some (some (.int .u8 0)) := by kernel_rfl
theorem ag_5 : AggIs Tryz.prog 5 false := by unfold AggIs; kernel_rfl
theorem u_9 : Tryz.prog.underlying 9 = some .string := by kernel_rfl
theorem sz_9 : (Tryz.prog.info? 9).map (·.size) = some 1 := by kernel_rfl
theorem z_9 : (Tryz.prog.info? 9).map (·.zero) = some (some (.string ⟨#[]⟩)) := by kernel_rfl
theorem ag_9 : AggIs Tryz.prog 9 false := by unfold AggIs; kernel_rfl
abbrev kSl_5 : Kd (List UInt8) := kslice 5 1 kbyte
theorem u_39 : Tryz.prog.underlying 39 = some (.slice 5) := by kernel_rfl
theorem ag_39 : AggIs Tryz.prog 39 false := by unfold AggIs; kernel_rfl
theorem z_39 : (Tryz.prog.info? 39).map (·.zero) = some (some (.slice none 0 0)) := by kernel_rfl
theorem sz_39 : (Tryz.prog.info? 39).map (·.size) = some 1 := by kernel_rfl
theorem inf_5 : (Tryz.prog.info? 5).map (fun i => (i.size, i.bytes, i.zero)) = some (kbyte.sz, 1, some (.int .u8 0)) := by kernel_rfl
abbrev kSl_39 : Kd (List (List UInt8)) := kslice 39 24 kSl_5
theorem u_22 : Tryz.prog.underlying 22 = some (.slice 39) := by kernel_rfl
theorem ag_22 : AggIs Tryz.prog 22 false := by unfold AggIs; kernel_rfl
theorem z_22 : (Tryz.prog.info? 22).map (·.zero) = some (some (.slice none 0 0)) := by kernel_rfl
theorem sz_22 : (Tryz.prog.info? 22).map (·.size) = some 1 := by kernel_rfl
theorem inf_39 : (Tryz.prog.info? 39).map (fun i => (i.size, i.bytes, i.zero)) = some (kSl_5.sz, 24, some (.slice none 0 0)) := by kernel_rfl
abbrev kSl_2 : Kd (List Int) := kslice 2 8 (kint .i64)
theorem u_58 : Tryz.prog.underlying 58 = some (.slice 2) := by kernel_rfl
theorem ag_58 : AggIs Tryz.prog 58 false := by unfold AggIs; kernel_rfl
theorem z_58 : (Tryz.prog.info? 58).map (·.zero) = some (some (.slice none 0 0)) := by kernel_rfl
theorem sz_58 : (Tryz.prog.info? 58).map (·.size) = some 1 := by kernel_rfl
theorem inf_2 : (Tryz.prog.info? 2).map (fun i => (i.size, i.bytes, i.zero)) = some ((kint .i64).sz, 8, some (.int .i64 0)) := by kernel_rfl
def kT_68 : Kd DEnt := kiso (kpair kstr (kint .i64)) (fun x => (x.name, x.ino))
theorem sz_68 : (Tryz.prog.info? 68).map (·.size) = some 2 := by kernel_rfl
theorem z_68 : (Tryz.prog.info? 68).map (·.zero) = some (some (.agg #[.string ⟨#[]⟩, .int .i64 0])) := by kernel_rfl
theorem ag_68 : AggIs Tryz.prog 68 true := by unfold AggIs; kernel_rfl
theorem bl_68 : BuildOk Tryz.prog 68 (.agg #[.string ⟨#[]⟩, .int .i64 0]) #[(0, 1), (1, 1)] := ⟨by kernel_rfl, by kernel_rfl, fun w => by kernel_rfl⟩
theorem fa_68_0 (ad : Addr) (w : World) : (Instr.fieldAt 68 (.pointer (some ad)) 0).run Tryz.prog w = .ok (.pointer (some (ad.add 0))) w := by kernel_rfl
theorem fa_68_1 (ad : Addr) (w : World) : (Instr.fieldAt 68 (.pointer (some ad)) 1).run Tryz.prog w = .ok (.pointer (some (ad.add 1))) w := by kernel_rfl
theorem ent_gd_68 : Tryz.prog.eqGuardType Tryz.prog.depth 68 = false := by kernel_rfl
theorem ent_eq_68 (x y : DEnt) (w : World) : (Op.equalIn 10000 68 (.agg #[.string x.name, .int .i64 x.ino]) (.agg #[.string y.name, .int .i64 y.ino])).run Tryz.prog w = .ok (decide (x = y)) w := by
  rw [run_equalIn_struct w 9999 68 _ _ (by kernel_rfl) (by kernel_rfl)]
  rw [show (Tryz.prog.fieldsOf 68).toList = [(Tryz.prog.fieldsOf 68)[0]!, (Tryz.prog.fieldsOf 68)[1]!] by kernel_rfl]
  refine ((eqFs_cons (a := .string x.name) (b := .string y.name) (by kernel_rfl) (fun w => by kernel_rfl) (fun w => by kernel_rfl) (fun w => run_equalIn_string w 9998 _ x.name y.name (by kernel_rfl)) (eqFs_cons (a := .int .i64 x.ino) (b := .int .i64 y.ino) (by kernel_rfl) (fun w => by kernel_rfl) (fun w => by kernel_rfl) (fun w => run_equalIn_int w 9998 _ .i64 .i64 x.ino y.ino (by kernel_rfl)) eqFs_nil)) w).trans ?_
  congr 1; cases x; cases y; simp only [beq_str, beq_int, Bool.and_true, DEnt.mk.injEq, Bool.decide_and]
theorem kT_68_ro {w : World} {F : Bs} {x : DEnt} {cs : List Value} (h : kT_68.ro w F x cs) : cs = [.string x.name, .int .i64 x.ino] ∧ x.name.size ≤ 140737488351232 := by
  obtain ⟨_, _, rfl, ⟨rfl, s0⟩, ⟨rfl, -⟩⟩ := h
  exact ⟨rfl, s0⟩
theorem kT_68_mk {w : World} {F : Bs} (x : DEnt) (s0 : x.name.size ≤ 140737488351232) : kT_68.ro w F x [.string x.name, .int .i64 x.ino] :=
  ⟨_, _, rfl, ⟨rfl, s0⟩, ⟨rfl, trivial⟩⟩
theorem kT_68_own {w : World} {S : Bs} {x : DEnt} {cs : List Value} (h : kT_68.own w S x cs) : cs = [.string x.name, .int .i64 x.ino] ∧ Star [] w S ∧ x.name.size ≤ 140737488351232 := by
  obtain ⟨_, _, rfl, a0⟩ := h
  obtain ⟨p0, q0, b0, c0, i0, j0, k0⟩ := star2 a0
  obtain ⟨rfl, s0⟩ := b0
  obtain ⟨rfl, -⟩ := c0
  exact ⟨rfl, trivial, s0⟩
theorem kT_68_op {x : DEnt} {cs : List Value} (w : World) (S : Bs) (h : Star [ownA kT_68 x cs] w S) : ∃ g : Unit, (cs = [.string x.name, .int .i64 x.ino] ∧ x.name.size ≤ 140737488351232) ∧ Star [] w S := by
  obtain ⟨h1, h2, s0⟩ := kT_68_own (show kT_68.own w S x cs from h.head (c := ownA kT_68 x cs))
  exact ⟨(), ⟨h1, s0⟩, h2⟩
theorem kT_68_omk {w : World} {S : Bs} (x : DEnt) (h : Star [] w S) (s0 : x.name.size ≤ 140737488351232) : kT_68.own w S x [.string x.name, .int .i64 x.ino] := by
  have m1 : Mk kstr x.name [.string x.name] [] := (mk_str s0)
  have m2 : Mk (kint .i64) x.ino [.int .i64 x.ino] [] := mk_int
  have m3 : Mk (kpair kstr (kint .i64)) (x.name, x.ino) ([.string x.name] ++ [.int .i64 x.ino]) ([] ++ []) := mk_pair m1 m2
  have m0 : Mk kT_68 x ([.string x.name] ++ [.int .i64 x.ino]) ([] ++ []) := m3
  exact m0 w S h
def RA_68 (x : DEnt) (r : Value) (l : List Asn) : Prop := r = .agg #[.string x.name, .int .i64 x.ino] ∧ l = [] ∧ x.name.size ≤ 140737488351232
theorem zero_68 (w : World) (S : Bs) : kT_68.own w S (⟨⟨#[]⟩, 0⟩ : DEnt) [.string ⟨#[]⟩, .int .i64 0] := kT_68_omk (⟨⟨#[]⟩, 0⟩ : DEnt) (trivial) (by decide)
def PA_68 (g e s : Nat) (post : List Value) (x : DEnt) (r : Value) (l : List Asn) : Prop := r = .tuple #[] ∧ l = [rowA g e s 1 ((.string x.name) :: (.int .i64 x.ino) :: post)] ∧ x.name.size ≤ 140737488351232
abbrev kSl_68 : Kd (List DEnt) := kslice 68 24 kT_68
theorem u_64 : Tryz.prog.underlying 64 = some (.slice 68) := by kernel_rfl
theorem ag_64 : AggIs Tryz.prog 64 false := by unfold AggIs; kernel_rfl
theorem z_64 : (Tryz.prog.info? 64).map (·.zero) = some (some (.slice none 0 0)) := by kernel_rfl
theorem sz_64 : (Tryz.prog.info? 64).map (·.size) = some 1 := by kernel_rfl
theorem inf_68 : (Tryz.prog.info? 68).map (fun i => (i.size, i.bytes, i.zero)) = some (kT_68.sz, 24, some (.agg #[.string ⟨#[]⟩, .int .i64 0])) := by kernel_rfl
def kT_66 : Kd DInode := kiso (kpair (kint .i64) (kpair (kint .i64) (kpair (kint .i64) (kpair kSl_2 kSl_68)))) (fun x => (x.kind, x.links, x.size, x.blocks, x.ents))
theorem sz_66 : (Tryz.prog.info? 66).map (·.size) = some 5 := by kernel_rfl
theorem z_66 : (Tryz.prog.info? 66).map (·.zero) = some (some (.agg #[.int .i64 0, .int .i64 0, .int .i64 0, .slice none 0 0, .slice none 0 0])) := by kernel_rfl
theorem ag_66 : AggIs Tryz.prog 66 true := by unfold AggIs; kernel_rfl
theorem bl_66 : BuildOk Tryz.prog 66 (.agg #[.int .i64 0, .int .i64 0, .int .i64 0, .slice none 0 0, .slice none 0 0]) #[(0, 1), (1, 1), (2, 1), (3, 1), (4, 1)] := ⟨by kernel_rfl, by kernel_rfl, fun w => by kernel_rfl⟩
theorem fa_66_0 (ad : Addr) (w : World) : (Instr.fieldAt 66 (.pointer (some ad)) 0).run Tryz.prog w = .ok (.pointer (some (ad.add 0))) w := by kernel_rfl
theorem fa_66_1 (ad : Addr) (w : World) : (Instr.fieldAt 66 (.pointer (some ad)) 1).run Tryz.prog w = .ok (.pointer (some (ad.add 1))) w := by kernel_rfl
theorem fa_66_2 (ad : Addr) (w : World) : (Instr.fieldAt 66 (.pointer (some ad)) 2).run Tryz.prog w = .ok (.pointer (some (ad.add 2))) w := by kernel_rfl
theorem fa_66_3 (ad : Addr) (w : World) : (Instr.fieldAt 66 (.pointer (some ad)) 3).run Tryz.prog w = .ok (.pointer (some (ad.add 3))) w := by kernel_rfl
theorem fa_66_4 (ad : Addr) (w : World) : (Instr.fieldAt 66 (.pointer (some ad)) 4).run Tryz.prog w = .ok (.pointer (some (ad.add 4))) w := by kernel_rfl
theorem kT_66_ro {w : World} {F : Bs} {x : DInode} {cs : List Value} (h : kT_66.ro w F x cs) : ∃ v3 v4, cs = [.int .i64 x.kind, .int .i64 x.links, .int .i64 x.size, v3, v4] ∧ kSl_2.ro w F x.blocks [v3] ∧ kSl_68.ro w F x.ents [v4] := by
  obtain ⟨_, _, rfl, ⟨rfl, -⟩, ⟨_, _, rfl, ⟨rfl, -⟩, ⟨_, _, rfl, ⟨rfl, -⟩, ⟨_, _, rfl, h3, h4⟩⟩⟩⟩ := h
  obtain ⟨v3, rfl⟩ := sl_one h3
  obtain ⟨v4, rfl⟩ := sl_one h4
  exact ⟨v3, v4, rfl, h3, h4⟩
theorem kT_66_mk {w : World} {F : Bs} (x : DInode) {v3 : Value} {v4 : Value} (h3 : kSl_2.ro w F x.blocks [v3]) (h4 : kSl_68.ro w F x.ents [v4]) : kT_66.ro w F x [.int .i64 x.kind, .int .i64 x.links, .int .i64 x.size, v3, v4] :=
  ⟨_, _, rfl, ⟨rfl, trivial⟩, ⟨_, _, rfl, ⟨rfl, trivial⟩, ⟨_, _, rfl, ⟨rfl, trivial⟩, ⟨_, _, rfl, h3, h4⟩⟩⟩⟩
theorem kT_66_own {w : World} {S : Bs} {x : DInode} {cs : List Value} (h : kT_66.own w S x cs) : ∃ v3 v4, cs = [.int .i64 x.kind, .int .i64 x.links, .int .i64 x.size, v3, v4] ∧ Star [ownA kSl_2 x.blocks [v3], ownA kSl_68 x.ents [v4]] w S := by
  obtain ⟨_, _, rfl, a0⟩ := h
  obtain ⟨p0, q0, b0, c0, i0, j0, k0⟩ := star2 a0
  obtain ⟨rfl, -⟩ := b0
  obtain ⟨_, _, rfl, a1⟩ := c0
  obtain ⟨p1, q1, b1, c1, i1, j1, k1⟩ := star2 a1
  obtain ⟨rfl, -⟩ := b1
  obtain ⟨_, _, rfl, a2⟩ := c1
  obtain ⟨p2, q2, b2, c2, i2, j2, k2⟩ := star2 a2
  obtain ⟨rfl, -⟩ := b2
  obtain ⟨_, _, rfl, a3⟩ := c2
  obtain ⟨p3, q3, b3, c3, i3, j3, k3⟩ := star2 a3
  obtain ⟨v3, rfl⟩ := osl_one b3
  have g4 := Star.one (c := ownA kSl_2 x.blocks [v3]) b3
  obtain ⟨v4, rfl⟩ := osl_one c3
  have g5 := Star.one (c := ownA kSl_68 x.ents [v4]) c3
  have g6 := g4.app g5 i3 j3 k3
  have g7 := g6.up j2
  have g8 := g7.up j1
  have g9 := g8.up j0
  exact ⟨v3, v4, rfl, g9⟩
theorem kT_66_op {x : DInode} {cs : List Value} (w : World) (S : Bs) (h : Star [ownA kT_66 x cs] w S) : ∃ g : Value × Value, cs = [.int .i64 x.kind, .int .i64 x.links, .int .i64 x.size, g.1, g.2] ∧ Star [ownA kSl_2 x.blocks [g.1], ownA kSl_68 x.ents [g.2]] w S := by
  obtain ⟨v3, v4, h1, h2⟩ := kT_66_own (show kT_66.own w S x cs from h.head (c := ownA kT_66 x cs))
  exact ⟨(v3, v4), h1, h2⟩
theorem kT_66_omk {w : World} {S : Bs} (x : DInode) {v3 : Value} {v4 : Value} (h : Star [ownA kSl_2 x.blocks [v3], ownA kSl_68 x.ents [v4]] w S) : kT_66.own w S x [.int .i64 x.kind, .int .i64 x.links, .int .i64 x.size, v3, v4] := by
  have m1 : Mk (kint .i64) x.kind [.int .i64 x.kind] [] := mk_int
  have m2 : Mk (kint .i64) x.links [.int .i64 x.links] [] := mk_int
  have m3 : Mk (kint .i64) x.size [.int .i64 x.size] [] := mk_int
  have m4 : Mk kSl_2 x.blocks [v3] [ownA kSl_2 x.blocks [v3]] := mk_leaf
  have m5 : Mk kSl_68 x.ents [v4] [ownA kSl_68 x.ents [v4]] := mk_leaf
  have m6 : Mk (kpair kSl_2 kSl_68) (x.blocks, x.ents) ([v3] ++ [v4]) ([ownA kSl_2 x.blocks [v3]] ++ [ownA kSl_68 x.ents [v4]]) := mk_pair m4 m5
  have m7 : Mk (kpair (kint .i64) (kpair kSl_2 kSl_68)) (x.size, (x.blocks, x.ents)) ([.int .i64 x.size] ++ ([v3] ++ [v4])) ([] ++ ([ownA kSl_2 x.blocks [v3]] ++ [ownA kSl_68 x.ents [v4]])) := mk_pair m3 m6
  have m8 : Mk (kpair (kint .i64) (kpair (kint .i64) (kpair kSl_2 kSl_68))) (x.links, (x.size, (x.blocks, x.ents))) ([.int .i64 x.links] ++ ([.int .i64 x.size] ++ ([v3] ++ [v4]))) ([] ++ ([] ++ ([ownA kSl_2 x.blocks [v3]] ++ [ownA kSl_68 x.ents [v4]]))) := mk_pair m2 m7
  have m9 : Mk (kpair (kint .i64) (kpair (kint .i64) (kpair (kint .i64) (kpair kSl_2 kSl_68)))) (x.kind, (x.links, (x.size, (x.blocks, x.ents)))) ([.int .i64 x.kind] ++ ([.int .i64 x.links] ++ ([.int .i64 x.size] ++ ([v3] ++ [v4])))) ([] ++ ([] ++ ([] ++ ([ownA kSl_2 x.blocks [v3]] ++ [ownA kSl_68 x.ents [v4]])))) := mk_pair m1 m8
  have m0 : Mk kT_66 x ([.int .i64 x.kind] ++ ([.int .i64 x.links] ++ ([.int .i64 x.size] ++ ([v3] ++ [v4])))) ([] ++ ([] ++ ([] ++ ([ownA kSl_2 x.blocks [v3]] ++ [ownA kSl_68 x.ents [v4]])))) := m9
  exact m0 w S h
def RA_66 (x : DInode) (r : Value) (l : List Asn) : Prop := ∃ v3 v4, r = .agg #[.int .i64 x.kind, .int .i64 x.links, .int .i64 x.size, v3, v4] ∧ l = [ownA kSl_2 x.blocks [v3], ownA kSl_68 x.ents [v4]]
theorem zero_66 (w : World) (S : Bs) : kT_66.own w S (⟨0, 0, 0, [], []⟩ : DInode) [.int .i64 0, .int .i64 0, .int .i64 0, .slice none 0 0, .slice none 0 0] := kT_66_omk (⟨0, 0, 0, [], []⟩ : DInode) (⟨fun _ => False, fun _ => False, own_nil _ _ none, ⟨fun _ => False, fun _ => False, own_nil _ _ none, trivial, fun _ h => h.elim, fun _ h => h.elim, fun _ h => h.elim⟩, fun _ h => h.elim, fun _ h => h.elim, fun _ h => h.elim⟩)
def PA_66 (g e s : Nat) (post : List Value) (x : DInode) (r : Value) (l : List Asn) : Prop := ∃ v3 v4, r = .tuple #[] ∧ l = [rowA g e s 1 ((.int .i64 x.kind) :: (.int .i64 x.links) :: (.int .i64 x.size) :: v3 :: v4 :: post), ownA kSl_2 x.blocks [v3], ownA kSl_68 x.ents [v4]]
abbrev kSl_66 : Kd (List DInode) := kslice 66 72 kT_66
theorem u_24 : Tryz.prog.underlying 24 = some (.slice 66) := by kernel_rfl
theorem ag_24 : AggIs Tryz.prog 24 false := by unfold AggIs; kernel_rfl
theorem z_24 : (Tryz.prog.info? 24).map (·.zero) = some (some (.slice none 0 0)) := by kernel_rfl
theorem sz_24 : (Tryz.prog.info? 24).map (·.size) = some 1 := by kernel_rfl
theorem inf_66 : (Tryz.prog.info? 66).map (fun i => (i.size, i.bytes, i.zero)) = some (kT_66.sz, 72, some (.agg #[.int .i64 0, .int .i64 0, .int .i64 0, .slice none 0 0, .slice none 0 0])) := by kernel_rfl
def kT_26 : Kd DFs := kiso (kpair kSl_66 kSl_39) (fun x => (x.inodes, x.data))
theorem sz_26 : (Tryz.prog.info? 26).map (·.size) = some 2 := by kernel_rfl
theorem z_26 : (Tryz.prog.info? 26).map (·.zero) = some (some (.agg #[.slice none 0 0, .slice none 0 0])) := by kernel_rfl
theorem ag_26 : AggIs Tryz.prog 26 true := by unfold AggIs; kernel_rfl
theorem bl_26 : BuildOk Tryz.prog 26 (.agg #[.slice none 0 0, .slice none 0 0]) #[(0, 1), (1, 1)] := ⟨by kernel_rfl, by kernel_rfl, fun w => by kernel_rfl⟩
theorem fa_26_0 (ad : Addr) (w : World) : (Instr.fieldAt 26 (.pointer (some ad)) 0).run Tryz.prog w = .ok (.pointer (some (ad.add 0))) w := by kernel_rfl
theorem fa_26_1 (ad : Addr) (w : World) : (Instr.fieldAt 26 (.pointer (some ad)) 1).run Tryz.prog w = .ok (.pointer (some (ad.add 1))) w := by kernel_rfl
theorem kT_26_ro {w : World} {F : Bs} {x : DFs} {cs : List Value} (h : kT_26.ro w F x cs) : ∃ v0 v1, cs = [v0, v1] ∧ kSl_66.ro w F x.inodes [v0] ∧ kSl_39.ro w F x.data [v1] := by
  obtain ⟨_, _, rfl, h0, h1⟩ := h
  obtain ⟨v0, rfl⟩ := sl_one h0
  obtain ⟨v1, rfl⟩ := sl_one h1
  exact ⟨v0, v1, rfl, h0, h1⟩
theorem kT_26_mk {w : World} {F : Bs} (x : DFs) {v0 : Value} {v1 : Value} (h0 : kSl_66.ro w F x.inodes [v0]) (h1 : kSl_39.ro w F x.data [v1]) : kT_26.ro w F x [v0, v1] :=
  ⟨_, _, rfl, h0, h1⟩
theorem kT_26_own {w : World} {S : Bs} {x : DFs} {cs : List Value} (h : kT_26.own w S x cs) : ∃ v0 v1, cs = [v0, v1] ∧ Star [ownA kSl_66 x.inodes [v0], ownA kSl_39 x.data [v1]] w S := by
  obtain ⟨_, _, rfl, a0⟩ := h
  obtain ⟨p0, q0, b0, c0, i0, j0, k0⟩ := star2 a0
  obtain ⟨v0, rfl⟩ := osl_one b0
  have g1 := Star.one (c := ownA kSl_66 x.inodes [v0]) b0
  obtain ⟨v1, rfl⟩ := osl_one c0
  have g2 := Star.one (c := ownA kSl_39 x.data [v1]) c0
  have g3 := g1.app g2 i0 j0 k0
  exact ⟨v0, v1, rfl, g3⟩
theorem kT_26_op {x : DFs} {cs : List Value} (w : World) (S : Bs) (h : Star [ownA kT_26 x cs] w S) : ∃ g : Value × Value, cs = [g.1, g.2] ∧ Star [ownA kSl_66 x.inodes [g.1], ownA kSl_39 x.data [g.2]] w S := by
  obtain ⟨v0, v1, h1, h2⟩ := kT_26_own (show kT_26.own w S x cs from h.head (c := ownA kT_26 x cs))
  exact ⟨(v0, v1), h1, h2⟩
theorem kT_26_omk {w : World} {S : Bs} (x : DFs) {v0 : Value} {v1 : Value} (h : Star [ownA kSl_66 x.inodes [v0], ownA kSl_39 x.data [v1]] w S) : kT_26.own w S x [v0, v1] := by
  have m1 : Mk kSl_66 x.inodes [v0] [ownA kSl_66 x.inodes [v0]] := mk_leaf
  have m2 : Mk kSl_39 x.data [v1] [ownA kSl_39 x.data [v1]] := mk_leaf
  have m3 : Mk (kpair kSl_66 kSl_39) (x.inodes, x.data) ([v0] ++ [v1]) ([ownA kSl_66 x.inodes [v0]] ++ [ownA kSl_39 x.data [v1]]) := mk_pair m1 m2
  have m0 : Mk kT_26 x ([v0] ++ [v1]) ([ownA kSl_66 x.inodes [v0]] ++ [ownA kSl_39 x.data [v1]]) := m3
  exact m0 w S h
def RA_26 (x : DFs) (r : Value) (l : List Asn) : Prop := ∃ v0 v1, r = .agg #[v0, v1] ∧ l = [ownA kSl_66 x.inodes [v0], ownA kSl_39 x.data [v1]]
theorem zero_26 (w : World) (S : Bs) : kT_26.own w S (⟨[], []⟩ : DFs) [.slice none 0 0, .slice none 0 0] := kT_26_omk (⟨[], []⟩ : DFs) (⟨fun _ => False, fun _ => False, own_nil _ _ none, ⟨fun _ => False, fun _ => False, own_nil _ _ none, trivial, fun _ h => h.elim, fun _ h => h.elim, fun _ h => h.elim⟩, fun _ h => h.elim, fun _ h => h.elim, fun _ h => h.elim⟩)
def PA_26 (g e s : Nat) (post : List Value) (x : DFs) (r : Value) (l : List Asn) : Prop := ∃ v0 v1, r = .tuple #[] ∧ l = [rowA g e s 1 (v0 :: v1 :: post), ownA kSl_66 x.inodes [v0], ownA kSl_39 x.data [v1]]
def kT_28 : Kd RFs := kiso (kpair (kint .i64) kT_26) (fun x => (x.code, x.fs))
theorem sz_28 : (Tryz.prog.info? 28).map (·.size) = some 3 := by kernel_rfl
theorem z_28 : (Tryz.prog.info? 28).map (·.zero) = some (some (.agg #[.int .i64 0, .slice none 0 0, .slice none 0 0])) := by kernel_rfl
theorem ag_28 : AggIs Tryz.prog 28 true := by unfold AggIs; kernel_rfl
theorem bl_28 : BuildOk Tryz.prog 28 (.agg #[.int .i64 0, .slice none 0 0, .slice none 0 0]) #[(0, 1), (1, 2)] := ⟨by kernel_rfl, by kernel_rfl, fun w => by kernel_rfl⟩
theorem fa_28_0 (ad : Addr) (w : World) : (Instr.fieldAt 28 (.pointer (some ad)) 0).run Tryz.prog w = .ok (.pointer (some (ad.add 0))) w := by kernel_rfl
theorem fa_28_1 (ad : Addr) (w : World) : (Instr.fieldAt 28 (.pointer (some ad)) 1).run Tryz.prog w = .ok (.pointer (some (ad.add 1))) w := by kernel_rfl
theorem kT_28_ro {w : World} {F : Bs} {x : RFs} {cs : List Value} (h : kT_28.ro w F x cs) : ∃ v1 v2, cs = [.int .i64 x.code, v1, v2] ∧ kSl_66.ro w F x.fs.inodes [v1] ∧ kSl_39.ro w F x.fs.data [v2] := by
  obtain ⟨_, _, rfl, ⟨rfl, -⟩, ⟨_, _, rfl, h1, h2⟩⟩ := h
  obtain ⟨v1, rfl⟩ := sl_one h1
  obtain ⟨v2, rfl⟩ := sl_one h2
  exact ⟨v1, v2, rfl, h1, h2⟩
theorem kT_28_mk {w : World} {F : Bs} (x : RFs) {v1 : Value} {v2 : Value} (h1 : kSl_66.ro w F x.fs.inodes [v1]) (h2 : kSl_39.ro w F x.fs.data [v2]) : kT_28.ro w F x [.int .i64 x.code, v1, v2] :=
  ⟨_, _, rfl, ⟨rfl, trivial⟩, ⟨_, _, rfl, h1, h2⟩⟩
theorem kT_28_own {w : World} {S : Bs} {x : RFs} {cs : List Value} (h : kT_28.own w S x cs) : ∃ v1 v2, cs = [.int .i64 x.code, v1, v2] ∧ Star [ownA kSl_66 x.fs.inodes [v1], ownA kSl_39 x.fs.data [v2]] w S := by
  obtain ⟨_, _, rfl, a0⟩ := h
  obtain ⟨p0, q0, b0, c0, i0, j0, k0⟩ := star2 a0
  obtain ⟨rfl, -⟩ := b0
  obtain ⟨_, _, rfl, a1⟩ := c0
  obtain ⟨p1, q1, b1, c1, i1, j1, k1⟩ := star2 a1
  obtain ⟨v1, rfl⟩ := osl_one b1
  have g2 := Star.one (c := ownA kSl_66 x.fs.inodes [v1]) b1
  obtain ⟨v2, rfl⟩ := osl_one c1
  have g3 := Star.one (c := ownA kSl_39 x.fs.data [v2]) c1
  have g4 := g2.app g3 i1 j1 k1
  have g5 := g4.up j0
  exact ⟨v1, v2, rfl, g5⟩
theorem kT_28_op {x : RFs} {cs : List Value} (w : World) (S : Bs) (h : Star [ownA kT_28 x cs] w S) : ∃ g : Value × Value, cs = [.int .i64 x.code, g.1, g.2] ∧ Star [ownA kSl_66 x.fs.inodes [g.1], ownA kSl_39 x.fs.data [g.2]] w S := by
  obtain ⟨v1, v2, h1, h2⟩ := kT_28_own (show kT_28.own w S x cs from h.head (c := ownA kT_28 x cs))
  exact ⟨(v1, v2), h1, h2⟩
theorem kT_28_omk {w : World} {S : Bs} (x : RFs) {v1 : Value} {v2 : Value} (h : Star [ownA kSl_66 x.fs.inodes [v1], ownA kSl_39 x.fs.data [v2]] w S) : kT_28.own w S x [.int .i64 x.code, v1, v2] := by
  have m1 : Mk (kint .i64) x.code [.int .i64 x.code] [] := mk_int
  have m3 : Mk kSl_66 x.fs.inodes [v1] [ownA kSl_66 x.fs.inodes [v1]] := mk_leaf
  have m4 : Mk kSl_39 x.fs.data [v2] [ownA kSl_39 x.fs.data [v2]] := mk_leaf
  have m5 : Mk (kpair kSl_66 kSl_39) (x.fs.inodes, x.fs.data) ([v1] ++ [v2]) ([ownA kSl_66 x.fs.inodes [v1]] ++ [ownA kSl_39 x.fs.data [v2]]) := mk_pair m3 m4
  have m2 : Mk kT_26 x.fs ([v1] ++ [v2]) ([ownA kSl_66 x.fs.inodes [v1]] ++ [ownA kSl_39 x.fs.data [v2]]) := m5
  have m6 : Mk (kpair (kint .i64) kT_26) (x.code, x.fs) ([.int .i64 x.code] ++ ([v1] ++ [v2])) ([] ++ ([ownA kSl_66 x.fs.inodes [v1]] ++ [ownA kSl_39 x.fs.data [v2]])) := mk_pair m1 m2
  have m0 : Mk kT_28 x ([.int .i64 x.code] ++ ([v1] ++ [v2])) ([] ++ ([ownA kSl_66 x.fs.inodes [v1]] ++ [ownA kSl_39 x.fs.data [v2]])) := m6
  exact m0 w S h
def RA_28 (x : RFs) (r : Value) (l : List Asn) : Prop := ∃ v1 v2, r = .agg #[.int .i64 x.code, v1, v2] ∧ l = [ownA kSl_66 x.fs.inodes [v1], ownA kSl_39 x.fs.data [v2]]
theorem zero_28 (w : World) (S : Bs) : kT_28.own w S (⟨0, (⟨[], []⟩ : DFs)⟩ : RFs) [.int .i64 0, .slice none 0 0, .slice none 0 0] := kT_28_omk (⟨0, (⟨[], []⟩ : DFs)⟩ : RFs) (⟨fun _ => False, fun _ => False, own_nil _ _ none, ⟨fun _ => False, fun _ => False, own_nil _ _ none, trivial, fun _ h => h.elim, fun _ h => h.elim, fun _ h => h.elim⟩, fun _ h => h.elim, fun _ h => h.elim, fun _ h => h.elim⟩)
def PA_28 (g e s : Nat) (post : List Value) (x : RFs) (r : Value) (l : List Asn) : Prop := ∃ v1 v2, r = .tuple #[] ∧ l = [rowA g e s 1 ((.int .i64 x.code) :: v1 :: v2 :: post), ownA kSl_66 x.fs.inodes [v1], ownA kSl_39 x.fs.data [v2]]
def kT_160 : Kd DEnt := kiso (kpair kstr (kint .i64)) (fun x => (x.name, x.ino))
theorem sz_160 : (Tryz.prog.info? 160).map (·.size) = some 2 := by kernel_rfl
theorem z_160 : (Tryz.prog.info? 160).map (·.zero) = some (some (.agg #[.string ⟨#[]⟩, .int .i64 0])) := by kernel_rfl
theorem ag_160 : AggIs Tryz.prog 160 true := by unfold AggIs; kernel_rfl
theorem bl_160 : BuildOk Tryz.prog 160 (.agg #[.string ⟨#[]⟩, .int .i64 0]) #[(0, 1), (1, 1)] := ⟨by kernel_rfl, by kernel_rfl, fun w => by kernel_rfl⟩
theorem fa_160_0 (ad : Addr) (w : World) : (Instr.fieldAt 160 (.pointer (some ad)) 0).run Tryz.prog w = .ok (.pointer (some (ad.add 0))) w := by kernel_rfl
theorem fa_160_1 (ad : Addr) (w : World) : (Instr.fieldAt 160 (.pointer (some ad)) 1).run Tryz.prog w = .ok (.pointer (some (ad.add 1))) w := by kernel_rfl
theorem ent_gd_160 : Tryz.prog.eqGuardType Tryz.prog.depth 160 = false := by kernel_rfl
theorem ent_eq_160 (x y : DEnt) (w : World) : (Op.equalIn 10000 160 (.agg #[.string x.name, .int .i64 x.ino]) (.agg #[.string y.name, .int .i64 y.ino])).run Tryz.prog w = .ok (decide (x = y)) w := by
  rw [run_equalIn_struct w 9999 160 _ _ (by kernel_rfl) (by kernel_rfl)]
  rw [show (Tryz.prog.fieldsOf 160).toList = [(Tryz.prog.fieldsOf 160)[0]!, (Tryz.prog.fieldsOf 160)[1]!] by kernel_rfl]
  refine ((eqFs_cons (a := .string x.name) (b := .string y.name) (by kernel_rfl) (fun w => by kernel_rfl) (fun w => by kernel_rfl) (fun w => run_equalIn_string w 9998 _ x.name y.name (by kernel_rfl)) (eqFs_cons (a := .int .i64 x.ino) (b := .int .i64 y.ino) (by kernel_rfl) (fun w => by kernel_rfl) (fun w => by kernel_rfl) (fun w => run_equalIn_int w 9998 _ .i64 .i64 x.ino y.ino (by kernel_rfl)) eqFs_nil)) w).trans ?_
  congr 1; cases x; cases y; simp only [beq_str, beq_int, Bool.and_true, DEnt.mk.injEq, Bool.decide_and]
theorem kT_160_ro {w : World} {F : Bs} {x : DEnt} {cs : List Value} (h : kT_160.ro w F x cs) : cs = [.string x.name, .int .i64 x.ino] ∧ x.name.size ≤ 140737488351232 := by
  obtain ⟨_, _, rfl, ⟨rfl, s0⟩, ⟨rfl, -⟩⟩ := h
  exact ⟨rfl, s0⟩
theorem kT_160_mk {w : World} {F : Bs} (x : DEnt) (s0 : x.name.size ≤ 140737488351232) : kT_160.ro w F x [.string x.name, .int .i64 x.ino] :=
  ⟨_, _, rfl, ⟨rfl, s0⟩, ⟨rfl, trivial⟩⟩
theorem kT_160_own {w : World} {S : Bs} {x : DEnt} {cs : List Value} (h : kT_160.own w S x cs) : cs = [.string x.name, .int .i64 x.ino] ∧ Star [] w S ∧ x.name.size ≤ 140737488351232 := by
  obtain ⟨_, _, rfl, a0⟩ := h
  obtain ⟨p0, q0, b0, c0, i0, j0, k0⟩ := star2 a0
  obtain ⟨rfl, s0⟩ := b0
  obtain ⟨rfl, -⟩ := c0
  exact ⟨rfl, trivial, s0⟩
theorem kT_160_op {x : DEnt} {cs : List Value} (w : World) (S : Bs) (h : Star [ownA kT_160 x cs] w S) : ∃ g : Unit, (cs = [.string x.name, .int .i64 x.ino] ∧ x.name.size ≤ 140737488351232) ∧ Star [] w S := by
  obtain ⟨h1, h2, s0⟩ := kT_160_own (show kT_160.own w S x cs from h.head (c := ownA kT_160 x cs))
  exact ⟨(), ⟨h1, s0⟩, h2⟩
theorem kT_160_omk {w : World} {S : Bs} (x : DEnt) (h : Star [] w S) (s0 : x.name.size ≤ 140737488351232) : kT_160.own w S x [.string x.name, .int .i64 x.ino] := by
  have m1 : Mk kstr x.name [.string x.name] [] := (mk_str s0)
  have m2 : Mk (kint .i64) x.ino [.int .i64 x.ino] [] := mk_int
  have m3 : Mk (kpair kstr (kint .i64)) (x.name, x.ino) ([.string x.name] ++ [.int .i64 x.ino]) ([] ++ []) := mk_pair m1 m2
  have m0 : Mk kT_160 x ([.string x.name] ++ [.int .i64 x.ino]) ([] ++ []) := m3
  exact m0 w S h
def RA_160 (x : DEnt) (r : Value) (l : List Asn) : Prop := r = .agg #[.string x.name, .int .i64 x.ino] ∧ l = [] ∧ x.name.size ≤ 140737488351232
theorem zero_160 (w : World) (S : Bs) : kT_160.own w S (⟨⟨#[]⟩, 0⟩ : DEnt) [.string ⟨#[]⟩, .int .i64 0] := kT_160_omk (⟨⟨#[]⟩, 0⟩ : DEnt) (trivial) (by decide)
def PA_160 (g e s : Nat) (post : List Value) (x : DEnt) (r : Value) (l : List Asn) : Prop := r = .tuple #[] ∧ l = [rowA g e s 1 ((.string x.name) :: (.int .i64 x.ino) :: post)] ∧ x.name.size ≤ 140737488351232
abbrev kSl_160 : Kd (List DEnt) := kslice 160 24 kT_160
theorem u_109 : Tryz.prog.underlying 109 = some (.slice 160) := by kernel_rfl
theorem ag_109 : AggIs Tryz.prog 109 false := by unfold AggIs; kernel_rfl
theorem z_109 : (Tryz.prog.info? 109).map (·.zero) = some (some (.slice none 0 0)) := by kernel_rfl
theorem sz_109 : (Tryz.prog.info? 109).map (·.size) = some 1 := by kernel_rfl
theorem inf_160 : (Tryz.prog.info? 160).map (fun i => (i.size, i.bytes, i.zero)) = some (kT_160.sz, 24, some (.agg #[.string ⟨#[]⟩, .int .i64 0])) := by kernel_rfl
def kT_111 : Kd DInode := kiso (kpair (kint .i64) (kpair (kint .i64) (kpair (kint .i64) (kpair kSl_2 kSl_160)))) (fun x => (x.kind, x.links, x.size, x.blocks, x.ents))
theorem sz_111 : (Tryz.prog.info? 111).map (·.size) = some 5 := by kernel_rfl
theorem z_111 : (Tryz.prog.info? 111).map (·.zero) = some (some (.agg #[.int .i64 0, .int .i64 0, .int .i64 0, .slice none 0 0, .slice none 0 0])) := by kernel_rfl
theorem ag_111 : AggIs Tryz.prog 111 true := by unfold AggIs; kernel_rfl
theorem bl_111 : BuildOk Tryz.prog 111 (.agg #[.int .i64 0, .int .i64 0, .int .i64 0, .slice none 0 0, .slice none 0 0]) #[(0, 1), (1, 1), (2, 1), (3, 1), (4, 1)] := ⟨by kernel_rfl, by kernel_rfl, fun w => by kernel_rfl⟩
theorem fa_111_0 (ad : Addr) (w : World) : (Instr.fieldAt 111 (.pointer (some ad)) 0).run Tryz.prog w = .ok (.pointer (some (ad.add 0))) w := by kernel_rfl
theorem fa_111_1 (ad : Addr) (w : World) : (Instr.fieldAt 111 (.pointer (some ad)) 1).run Tryz.prog w = .ok (.pointer (some (ad.add 1))) w := by kernel_rfl
theorem fa_111_2 (ad : Addr) (w : World) : (Instr.fieldAt 111 (.pointer (some ad)) 2).run Tryz.prog w = .ok (.pointer (some (ad.add 2))) w := by kernel_rfl
theorem fa_111_3 (ad : Addr) (w : World) : (Instr.fieldAt 111 (.pointer (some ad)) 3).run Tryz.prog w = .ok (.pointer (some (ad.add 3))) w := by kernel_rfl
theorem fa_111_4 (ad : Addr) (w : World) : (Instr.fieldAt 111 (.pointer (some ad)) 4).run Tryz.prog w = .ok (.pointer (some (ad.add 4))) w := by kernel_rfl
theorem kT_111_ro {w : World} {F : Bs} {x : DInode} {cs : List Value} (h : kT_111.ro w F x cs) : ∃ v3 v4, cs = [.int .i64 x.kind, .int .i64 x.links, .int .i64 x.size, v3, v4] ∧ kSl_2.ro w F x.blocks [v3] ∧ kSl_160.ro w F x.ents [v4] := by
  obtain ⟨_, _, rfl, ⟨rfl, -⟩, ⟨_, _, rfl, ⟨rfl, -⟩, ⟨_, _, rfl, ⟨rfl, -⟩, ⟨_, _, rfl, h3, h4⟩⟩⟩⟩ := h
  obtain ⟨v3, rfl⟩ := sl_one h3
  obtain ⟨v4, rfl⟩ := sl_one h4
  exact ⟨v3, v4, rfl, h3, h4⟩
theorem kT_111_mk {w : World} {F : Bs} (x : DInode) {v3 : Value} {v4 : Value} (h3 : kSl_2.ro w F x.blocks [v3]) (h4 : kSl_160.ro w F x.ents [v4]) : kT_111.ro w F x [.int .i64 x.kind, .int .i64 x.links, .int .i64 x.size, v3, v4] :=
  ⟨_, _, rfl, ⟨rfl, trivial⟩, ⟨_, _, rfl, ⟨rfl, trivial⟩, ⟨_, _, rfl, ⟨rfl, trivial⟩, ⟨_, _, rfl, h3, h4⟩⟩⟩⟩
theorem kT_111_own {w : World} {S : Bs} {x : DInode} {cs : List Value} (h : kT_111.own w S x cs) : ∃ v3 v4, cs = [.int .i64 x.kind, .int .i64 x.links, .int .i64 x.size, v3, v4] ∧ Star [ownA kSl_2 x.blocks [v3], ownA kSl_160 x.ents [v4]] w S := by
  obtain ⟨_, _, rfl, a0⟩ := h
  obtain ⟨p0, q0, b0, c0, i0, j0, k0⟩ := star2 a0
  obtain ⟨rfl, -⟩ := b0
  obtain ⟨_, _, rfl, a1⟩ := c0
  obtain ⟨p1, q1, b1, c1, i1, j1, k1⟩ := star2 a1
  obtain ⟨rfl, -⟩ := b1
  obtain ⟨_, _, rfl, a2⟩ := c1
  obtain ⟨p2, q2, b2, c2, i2, j2, k2⟩ := star2 a2
  obtain ⟨rfl, -⟩ := b2
  obtain ⟨_, _, rfl, a3⟩ := c2
  obtain ⟨p3, q3, b3, c3, i3, j3, k3⟩ := star2 a3
  obtain ⟨v3, rfl⟩ := osl_one b3
  have g4 := Star.one (c := ownA kSl_2 x.blocks [v3]) b3
  obtain ⟨v4, rfl⟩ := osl_one c3
  have g5 := Star.one (c := ownA kSl_160 x.ents [v4]) c3
  have g6 := g4.app g5 i3 j3 k3
  have g7 := g6.up j2
  have g8 := g7.up j1
  have g9 := g8.up j0
  exact ⟨v3, v4, rfl, g9⟩
theorem kT_111_op {x : DInode} {cs : List Value} (w : World) (S : Bs) (h : Star [ownA kT_111 x cs] w S) : ∃ g : Value × Value, cs = [.int .i64 x.kind, .int .i64 x.links, .int .i64 x.size, g.1, g.2] ∧ Star [ownA kSl_2 x.blocks [g.1], ownA kSl_160 x.ents [g.2]] w S := by
  obtain ⟨v3, v4, h1, h2⟩ := kT_111_own (show kT_111.own w S x cs from h.head (c := ownA kT_111 x cs))
  exact ⟨(v3, v4), h1, h2⟩
theorem kT_111_omk {w : World} {S : Bs} (x : DInode) {v3 : Value} {v4 : Value} (h : Star [ownA kSl_2 x.blocks [v3], ownA kSl_160 x.ents [v4]] w S) : kT_111.own w S x [.int .i64 x.kind, .int .i64 x.links, .int .i64 x.size, v3, v4] := by
  have m1 : Mk (kint .i64) x.kind [.int .i64 x.kind] [] := mk_int
  have m2 : Mk (kint .i64) x.links [.int .i64 x.links] [] := mk_int
  have m3 : Mk (kint .i64) x.size [.int .i64 x.size] [] := mk_int
  have m4 : Mk kSl_2 x.blocks [v3] [ownA kSl_2 x.blocks [v3]] := mk_leaf
  have m5 : Mk kSl_160 x.ents [v4] [ownA kSl_160 x.ents [v4]] := mk_leaf
  have m6 : Mk (kpair kSl_2 kSl_160) (x.blocks, x.ents) ([v3] ++ [v4]) ([ownA kSl_2 x.blocks [v3]] ++ [ownA kSl_160 x.ents [v4]]) := mk_pair m4 m5
  have m7 : Mk (kpair (kint .i64) (kpair kSl_2 kSl_160)) (x.size, (x.blocks, x.ents)) ([.int .i64 x.size] ++ ([v3] ++ [v4])) ([] ++ ([ownA kSl_2 x.blocks [v3]] ++ [ownA kSl_160 x.ents [v4]])) := mk_pair m3 m6
  have m8 : Mk (kpair (kint .i64) (kpair (kint .i64) (kpair kSl_2 kSl_160))) (x.links, (x.size, (x.blocks, x.ents))) ([.int .i64 x.links] ++ ([.int .i64 x.size] ++ ([v3] ++ [v4]))) ([] ++ ([] ++ ([ownA kSl_2 x.blocks [v3]] ++ [ownA kSl_160 x.ents [v4]]))) := mk_pair m2 m7
  have m9 : Mk (kpair (kint .i64) (kpair (kint .i64) (kpair (kint .i64) (kpair kSl_2 kSl_160)))) (x.kind, (x.links, (x.size, (x.blocks, x.ents)))) ([.int .i64 x.kind] ++ ([.int .i64 x.links] ++ ([.int .i64 x.size] ++ ([v3] ++ [v4])))) ([] ++ ([] ++ ([] ++ ([ownA kSl_2 x.blocks [v3]] ++ [ownA kSl_160 x.ents [v4]])))) := mk_pair m1 m8
  have m0 : Mk kT_111 x ([.int .i64 x.kind] ++ ([.int .i64 x.links] ++ ([.int .i64 x.size] ++ ([v3] ++ [v4])))) ([] ++ ([] ++ ([] ++ ([ownA kSl_2 x.blocks [v3]] ++ [ownA kSl_160 x.ents [v4]])))) := m9
  exact m0 w S h
def RA_111 (x : DInode) (r : Value) (l : List Asn) : Prop := ∃ v3 v4, r = .agg #[.int .i64 x.kind, .int .i64 x.links, .int .i64 x.size, v3, v4] ∧ l = [ownA kSl_2 x.blocks [v3], ownA kSl_160 x.ents [v4]]
theorem zero_111 (w : World) (S : Bs) : kT_111.own w S (⟨0, 0, 0, [], []⟩ : DInode) [.int .i64 0, .int .i64 0, .int .i64 0, .slice none 0 0, .slice none 0 0] := kT_111_omk (⟨0, 0, 0, [], []⟩ : DInode) (⟨fun _ => False, fun _ => False, own_nil _ _ none, ⟨fun _ => False, fun _ => False, own_nil _ _ none, trivial, fun _ h => h.elim, fun _ h => h.elim, fun _ h => h.elim⟩, fun _ h => h.elim, fun _ h => h.elim, fun _ h => h.elim⟩)
def PA_111 (g e s : Nat) (post : List Value) (x : DInode) (r : Value) (l : List Asn) : Prop := ∃ v3 v4, r = .tuple #[] ∧ l = [rowA g e s 1 ((.int .i64 x.kind) :: (.int .i64 x.links) :: (.int .i64 x.size) :: v3 :: v4 :: post), ownA kSl_2 x.blocks [v3], ownA kSl_160 x.ents [v4]]
abbrev kSl_111 : Kd (List DInode) := kslice 111 72 kT_111
theorem u_35 : Tryz.prog.underlying 35 = some (.slice 111) := by kernel_rfl
theorem ag_35 : AggIs Tryz.prog 35 false := by unfold AggIs; kernel_rfl
theorem z_35 : (Tryz.prog.info? 35).map (·.zero) = some (some (.slice none 0 0)) := by kernel_rfl
theorem sz_35 : (Tryz.prog.info? 35).map (·.size) = some 1 := by kernel_rfl
theorem inf_111 : (Tryz.prog.info? 111).map (fun i => (i.size, i.bytes, i.zero)) = some (kT_111.sz, 72, some (.agg #[.int .i64 0, .int .i64 0, .int .i64 0, .slice none 0 0, .slice none 0 0])) := by kernel_rfl
def kT_37 : Kd DFs := kiso (kpair kSl_111 kSl_39) (fun x => (x.inodes, x.data))
theorem sz_37 : (Tryz.prog.info? 37).map (·.size) = some 2 := by kernel_rfl
theorem z_37 : (Tryz.prog.info? 37).map (·.zero) = some (some (.agg #[.slice none 0 0, .slice none 0 0])) := by kernel_rfl
theorem ag_37 : AggIs Tryz.prog 37 true := by unfold AggIs; kernel_rfl
theorem bl_37 : BuildOk Tryz.prog 37 (.agg #[.slice none 0 0, .slice none 0 0]) #[(0, 1), (1, 1)] := ⟨by kernel_rfl, by kernel_rfl, fun w => by kernel_rfl⟩
theorem fa_37_0 (ad : Addr) (w : World) : (Instr.fieldAt 37 (.pointer (some ad)) 0).run Tryz.prog w = .ok (.pointer (some (ad.add 0))) w := by kernel_rfl
theorem fa_37_1 (ad : Addr) (w : World) : (Instr.fieldAt 37 (.pointer (some ad)) 1).run Tryz.prog w = .ok (.pointer (some (ad.add 1))) w := by kernel_rfl
theorem kT_37_ro {w : World} {F : Bs} {x : DFs} {cs : List Value} (h : kT_37.ro w F x cs) : ∃ v0 v1, cs = [v0, v1] ∧ kSl_111.ro w F x.inodes [v0] ∧ kSl_39.ro w F x.data [v1] := by
  obtain ⟨_, _, rfl, h0, h1⟩ := h
  obtain ⟨v0, rfl⟩ := sl_one h0
  obtain ⟨v1, rfl⟩ := sl_one h1
  exact ⟨v0, v1, rfl, h0, h1⟩
theorem kT_37_mk {w : World} {F : Bs} (x : DFs) {v0 : Value} {v1 : Value} (h0 : kSl_111.ro w F x.inodes [v0]) (h1 : kSl_39.ro w F x.data [v1]) : kT_37.ro w F x [v0, v1] :=
  ⟨_, _, rfl, h0, h1⟩
theorem kT_37_own {w : World} {S : Bs} {x : DFs} {cs : List Value} (h : kT_37.own w S x cs) : ∃ v0 v1, cs = [v0, v1] ∧ Star [ownA kSl_111 x.inodes [v0], ownA kSl_39 x.data [v1]] w S := by
  obtain ⟨_, _, rfl, a0⟩ := h
  obtain ⟨p0, q0, b0, c0, i0, j0, k0⟩ := star2 a0
  obtain ⟨v0, rfl⟩ := osl_one b0
  have g1 := Star.one (c := ownA kSl_111 x.inodes [v0]) b0
  obtain ⟨v1, rfl⟩ := osl_one c0
  have g2 := Star.one (c := ownA kSl_39 x.data [v1]) c0
  have g3 := g1.app g2 i0 j0 k0
  exact ⟨v0, v1, rfl, g3⟩
theorem kT_37_op {x : DFs} {cs : List Value} (w : World) (S : Bs) (h : Star [ownA kT_37 x cs] w S) : ∃ g : Value × Value, cs = [g.1, g.2] ∧ Star [ownA kSl_111 x.inodes [g.1], ownA kSl_39 x.data [g.2]] w S := by
  obtain ⟨v0, v1, h1, h2⟩ := kT_37_own (show kT_37.own w S x cs from h.head (c := ownA kT_37 x cs))
  exact ⟨(v0, v1), h1, h2⟩
theorem kT_37_omk {w : World} {S : Bs} (x : DFs) {v0 : Value} {v1 : Value} (h : Star [ownA kSl_111 x.inodes [v0], ownA kSl_39 x.data [v1]] w S) : kT_37.own w S x [v0, v1] := by
  have m1 : Mk kSl_111 x.inodes [v0] [ownA kSl_111 x.inodes [v0]] := mk_leaf
  have m2 : Mk kSl_39 x.data [v1] [ownA kSl_39 x.data [v1]] := mk_leaf
  have m3 : Mk (kpair kSl_111 kSl_39) (x.inodes, x.data) ([v0] ++ [v1]) ([ownA kSl_111 x.inodes [v0]] ++ [ownA kSl_39 x.data [v1]]) := mk_pair m1 m2
  have m0 : Mk kT_37 x ([v0] ++ [v1]) ([ownA kSl_111 x.inodes [v0]] ++ [ownA kSl_39 x.data [v1]]) := m3
  exact m0 w S h
def RA_37 (x : DFs) (r : Value) (l : List Asn) : Prop := ∃ v0 v1, r = .agg #[v0, v1] ∧ l = [ownA kSl_111 x.inodes [v0], ownA kSl_39 x.data [v1]]
theorem zero_37 (w : World) (S : Bs) : kT_37.own w S (⟨[], []⟩ : DFs) [.slice none 0 0, .slice none 0 0] := kT_37_omk (⟨[], []⟩ : DFs) (⟨fun _ => False, fun _ => False, own_nil _ _ none, ⟨fun _ => False, fun _ => False, own_nil _ _ none, trivial, fun _ h => h.elim, fun _ h => h.elim, fun _ h => h.elim⟩, fun _ h => h.elim, fun _ h => h.elim, fun _ h => h.elim⟩)
def PA_37 (g e s : Nat) (post : List Value) (x : DFs) (r : Value) (l : List Asn) : Prop := ∃ v0 v1, r = .tuple #[] ∧ l = [rowA g e s 1 (v0 :: v1 :: post), ownA kSl_111 x.inodes [v0], ownA kSl_39 x.data [v1]]
def kT_41 : Kd RBytes := kiso (kpair (kint .i64) kSl_5) (fun x => (x.code, x.bytes))
theorem sz_41 : (Tryz.prog.info? 41).map (·.size) = some 2 := by kernel_rfl
theorem z_41 : (Tryz.prog.info? 41).map (·.zero) = some (some (.agg #[.int .i64 0, .slice none 0 0])) := by kernel_rfl
theorem ag_41 : AggIs Tryz.prog 41 true := by unfold AggIs; kernel_rfl
theorem bl_41 : BuildOk Tryz.prog 41 (.agg #[.int .i64 0, .slice none 0 0]) #[(0, 1), (1, 1)] := ⟨by kernel_rfl, by kernel_rfl, fun w => by kernel_rfl⟩
theorem fa_41_0 (ad : Addr) (w : World) : (Instr.fieldAt 41 (.pointer (some ad)) 0).run Tryz.prog w = .ok (.pointer (some (ad.add 0))) w := by kernel_rfl
theorem fa_41_1 (ad : Addr) (w : World) : (Instr.fieldAt 41 (.pointer (some ad)) 1).run Tryz.prog w = .ok (.pointer (some (ad.add 1))) w := by kernel_rfl
theorem kT_41_ro {w : World} {F : Bs} {x : RBytes} {cs : List Value} (h : kT_41.ro w F x cs) : ∃ v1, cs = [.int .i64 x.code, v1] ∧ kSl_5.ro w F x.bytes [v1] := by
  obtain ⟨_, _, rfl, ⟨rfl, -⟩, h1⟩ := h
  obtain ⟨v1, rfl⟩ := sl_one h1
  exact ⟨v1, rfl, h1⟩
theorem kT_41_mk {w : World} {F : Bs} (x : RBytes) {v1 : Value} (h1 : kSl_5.ro w F x.bytes [v1]) : kT_41.ro w F x [.int .i64 x.code, v1] :=
  ⟨_, _, rfl, ⟨rfl, trivial⟩, h1⟩
theorem kT_41_own {w : World} {S : Bs} {x : RBytes} {cs : List Value} (h : kT_41.own w S x cs) : ∃ v1, cs = [.int .i64 x.code, v1] ∧ Star [ownA kSl_5 x.bytes [v1]] w S := by
  obtain ⟨_, _, rfl, a0⟩ := h
  obtain ⟨p0, q0, b0, c0, i0, j0, k0⟩ := star2 a0
  obtain ⟨rfl, -⟩ := b0
  obtain ⟨v1, rfl⟩ := osl_one c0
  have g1 := Star.one (c := ownA kSl_5 x.bytes [v1]) c0
  have g2 := g1.up j0
  exact ⟨v1, rfl, g2⟩
theorem kT_41_op {x : RBytes} {cs : List Value} (w : World) (S : Bs) (h : Star [ownA kT_41 x cs] w S) : ∃ g : Value, cs = [.int .i64 x.code, g] ∧ Star [ownA kSl_5 x.bytes [g]] w S := by
  obtain ⟨v1, h1, h2⟩ := kT_41_own (show kT_41.own w S x cs from h.head (c := ownA kT_41 x cs))
  exact ⟨(v1), h1, h2⟩
theorem kT_41_omk {w : World} {S : Bs} (x : RBytes) {v1 : Value} (h : Star [ownA kSl_5 x.bytes [v1]] w S) : kT_41.own w S x [.int .i64 x.code, v1] := by
  have m1 : Mk (kint .i64) x.code [.int .i64 x.code] [] := mk_int
  have m2 : Mk kSl_5 x.bytes [v1] [ownA kSl_5 x.bytes [v1]] := mk_leaf
  have m3 : Mk (kpair (kint .i64) kSl_5) (x.code, x.bytes) ([.int .i64 x.code] ++ [v1]) ([] ++ [ownA kSl_5 x.bytes [v1]]) := mk_pair m1 m2
  have m0 : Mk kT_41 x ([.int .i64 x.code] ++ [v1]) ([] ++ [ownA kSl_5 x.bytes [v1]]) := m3
  exact m0 w S h
def RA_41 (x : RBytes) (r : Value) (l : List Asn) : Prop := ∃ v1, r = .agg #[.int .i64 x.code, v1] ∧ l = [ownA kSl_5 x.bytes [v1]]
theorem zero_41 (w : World) (S : Bs) : kT_41.own w S (⟨0, []⟩ : RBytes) [.int .i64 0, .slice none 0 0] := kT_41_omk (⟨0, []⟩ : RBytes) (⟨fun _ => False, fun _ => False, own_nil _ _ none, trivial, fun _ h => h.elim, fun _ h => h.elim, fun _ h => h.elim⟩)
def PA_41 (g e s : Nat) (post : List Value) (x : RBytes) (r : Value) (l : List Asn) : Prop := ∃ v1, r = .tuple #[] ∧ l = [rowA g e s 1 ((.int .i64 x.code) :: v1 :: post), ownA kSl_5 x.bytes [v1]]
def kT_60 : Kd RInts := kiso (kpair (kint .i64) kSl_2) (fun x => (x.code, x.list))
theorem sz_60 : (Tryz.prog.info? 60).map (·.size) = some 2 := by kernel_rfl
theorem z_60 : (Tryz.prog.info? 60).map (·.zero) = some (some (.agg #[.int .i64 0, .slice none 0 0])) := by kernel_rfl
theorem ag_60 : AggIs Tryz.prog 60 true := by unfold AggIs; kernel_rfl
theorem bl_60 : BuildOk Tryz.prog 60 (.agg #[.int .i64 0, .slice none 0 0]) #[(0, 1), (1, 1)] := ⟨by kernel_rfl, by kernel_rfl, fun w => by kernel_rfl⟩
theorem fa_60_0 (ad : Addr) (w : World) : (Instr.fieldAt 60 (.pointer (some ad)) 0).run Tryz.prog w = .ok (.pointer (some (ad.add 0))) w := by kernel_rfl
theorem fa_60_1 (ad : Addr) (w : World) : (Instr.fieldAt 60 (.pointer (some ad)) 1).run Tryz.prog w = .ok (.pointer (some (ad.add 1))) w := by kernel_rfl
theorem kT_60_ro {w : World} {F : Bs} {x : RInts} {cs : List Value} (h : kT_60.ro w F x cs) : ∃ v1, cs = [.int .i64 x.code, v1] ∧ kSl_2.ro w F x.list [v1] := by
  obtain ⟨_, _, rfl, ⟨rfl, -⟩, h1⟩ := h
  obtain ⟨v1, rfl⟩ := sl_one h1
  exact ⟨v1, rfl, h1⟩
theorem kT_60_mk {w : World} {F : Bs} (x : RInts) {v1 : Value} (h1 : kSl_2.ro w F x.list [v1]) : kT_60.ro w F x [.int .i64 x.code, v1] :=
  ⟨_, _, rfl, ⟨rfl, trivial⟩, h1⟩
theorem kT_60_own {w : World} {S : Bs} {x : RInts} {cs : List Value} (h : kT_60.own w S x cs) : ∃ v1, cs = [.int .i64 x.code, v1] ∧ Star [ownA kSl_2 x.list [v1]] w S := by
  obtain ⟨_, _, rfl, a0⟩ := h
  obtain ⟨p0, q0, b0, c0, i0, j0, k0⟩ := star2 a0
  obtain ⟨rfl, -⟩ := b0
  obtain ⟨v1, rfl⟩ := osl_one c0
  have g1 := Star.one (c := ownA kSl_2 x.list [v1]) c0
  have g2 := g1.up j0
  exact ⟨v1, rfl, g2⟩
theorem kT_60_op {x : RInts} {cs : List Value} (w : World) (S : Bs) (h : Star [ownA kT_60 x cs] w S) : ∃ g : Value, cs = [.int .i64 x.code, g] ∧ Star [ownA kSl_2 x.list [g]] w S := by
  obtain ⟨v1, h1, h2⟩ := kT_60_own (show kT_60.own w S x cs from h.head (c := ownA kT_60 x cs))
  exact ⟨(v1), h1, h2⟩
theorem kT_60_omk {w : World} {S : Bs} (x : RInts) {v1 : Value} (h : Star [ownA kSl_2 x.list [v1]] w S) : kT_60.own w S x [.int .i64 x.code, v1] := by
  have m1 : Mk (kint .i64) x.code [.int .i64 x.code] [] := mk_int
  have m2 : Mk kSl_2 x.list [v1] [ownA kSl_2 x.list [v1]] := mk_leaf
  have m3 : Mk (kpair (kint .i64) kSl_2) (x.code, x.list) ([.int .i64 x.code] ++ [v1]) ([] ++ [ownA kSl_2 x.list [v1]]) := mk_pair m1 m2
  have m0 : Mk kT_60 x ([.int .i64 x.code] ++ [v1]) ([] ++ [ownA kSl_2 x.list [v1]]) := m3
  exact m0 w S h
def RA_60 (x : RInts) (r : Value) (l : List Asn) : Prop := ∃ v1, r = .agg #[.int .i64 x.code, v1] ∧ l = [ownA kSl_2 x.list [v1]]
theorem zero_60 (w : World) (S : Bs) : kT_60.own w S (⟨0, []⟩ : RInts) [.int .i64 0, .slice none 0 0] := kT_60_omk (⟨0, []⟩ : RInts) (⟨fun _ => False, fun _ => False, own_nil _ _ none, trivial, fun _ h => h.elim, fun _ h => h.elim, fun _ h => h.elim⟩)
def PA_60 (g e s : Nat) (post : List Value) (x : RInts) (r : Value) (l : List Asn) : Prop := ∃ v1, r = .tuple #[] ∧ l = [rowA g e s 1 ((.int .i64 x.code) :: v1 :: post), ownA kSl_2 x.list [v1]]
def kT_130 : Kd DSrc := kiso (kpair kSl_5 (kint .i64)) (fun x => (x.code, x.at_))
theorem sz_130 : (Tryz.prog.info? 130).map (·.size) = some 2 := by kernel_rfl
theorem z_130 : (Tryz.prog.info? 130).map (·.zero) = some (some (.agg #[.slice none 0 0, .int .i64 0])) := by kernel_rfl
theorem ag_130 : AggIs Tryz.prog 130 true := by unfold AggIs; kernel_rfl
theorem bl_130 : BuildOk Tryz.prog 130 (.agg #[.slice none 0 0, .int .i64 0]) #[(0, 1), (1, 1)] := ⟨by kernel_rfl, by kernel_rfl, fun w => by kernel_rfl⟩
theorem fa_130_0 (ad : Addr) (w : World) : (Instr.fieldAt 130 (.pointer (some ad)) 0).run Tryz.prog w = .ok (.pointer (some (ad.add 0))) w := by kernel_rfl
theorem fa_130_1 (ad : Addr) (w : World) : (Instr.fieldAt 130 (.pointer (some ad)) 1).run Tryz.prog w = .ok (.pointer (some (ad.add 1))) w := by kernel_rfl
theorem kT_130_ro {w : World} {F : Bs} {x : DSrc} {cs : List Value} (h : kT_130.ro w F x cs) : ∃ v0, cs = [v0, .int .i64 x.at_] ∧ kSl_5.ro w F x.code [v0] := by
  obtain ⟨_, _, rfl, h0, ⟨rfl, -⟩⟩ := h
  obtain ⟨v0, rfl⟩ := sl_one h0
  exact ⟨v0, rfl, h0⟩
theorem kT_130_mk {w : World} {F : Bs} (x : DSrc) {v0 : Value} (h0 : kSl_5.ro w F x.code [v0]) : kT_130.ro w F x [v0, .int .i64 x.at_] :=
  ⟨_, _, rfl, h0, ⟨rfl, trivial⟩⟩
theorem kT_130_own {w : World} {S : Bs} {x : DSrc} {cs : List Value} (h : kT_130.own w S x cs) : ∃ v0, cs = [v0, .int .i64 x.at_] ∧ Star [ownA kSl_5 x.code [v0]] w S := by
  obtain ⟨_, _, rfl, a0⟩ := h
  obtain ⟨p0, q0, b0, c0, i0, j0, k0⟩ := star2 a0
  obtain ⟨v0, rfl⟩ := osl_one b0
  have g1 := Star.one (c := ownA kSl_5 x.code [v0]) b0
  obtain ⟨rfl, -⟩ := c0
  have g2 := g1.up i0
  exact ⟨v0, rfl, g2⟩
theorem kT_130_op {x : DSrc} {cs : List Value} (w : World) (S : Bs) (h : Star [ownA kT_130 x cs] w S) : ∃ g : Value, cs = [g, .int .i64 x.at_] ∧ Star [ownA kSl_5 x.code [g]] w S := by
  obtain ⟨v0, h1, h2⟩ := kT_130_own (show kT_130.own w S x cs from h.head (c := ownA kT_130 x cs))
  exact ⟨(v0), h1, h2⟩
theorem kT_130_omk {w : World} {S : Bs} (x : DSrc) {v0 : Value} (h : Star [ownA kSl_5 x.code [v0]] w S) : kT_130.own w S x [v0, .int .i64 x.at_] := by
  have m1 : Mk kSl_5 x.code [v0] [ownA kSl_5 x.code [v0]] := mk_leaf
  have m2 : Mk (kint .i64) x.at_ [.int .i64 x.at_] [] := mk_int
  have m3 : Mk (kpair kSl_5 (kint .i64)) (x.code, x.at_) ([v0] ++ [.int .i64 x.at_]) ([ownA kSl_5 x.code [v0]] ++ []) := mk_pair m1 m2
  have m0 : Mk kT_130 x ([v0] ++ [.int .i64 x.at_]) ([ownA kSl_5 x.code [v0]] ++ []) := m3
  exact m0 w S h
def RA_130 (x : DSrc) (r : Value) (l : List Asn) : Prop := ∃ v0, r = .agg #[v0, .int .i64 x.at_] ∧ l = [ownA kSl_5 x.code [v0]]
theorem zero_130 (w : World) (S : Bs) : kT_130.own w S (⟨[], 0⟩ : DSrc) [.slice none 0 0, .int .i64 0] := kT_130_omk (⟨[], 0⟩ : DSrc) (⟨fun _ => False, fun _ => False, own_nil _ _ none, trivial, fun _ h => h.elim, fun _ h => h.elim, fun _ h => h.elim⟩)
def PA_130 (g e s : Nat) (post : List Value) (x : DSrc) (r : Value) (l : List Asn) : Prop := ∃ v0, r = .tuple #[] ∧ l = [rowA g e s 1 (v0 :: (.int .i64 x.at_) :: post), ownA kSl_5 x.code [v0]]
abbrev kSl_4 : Kd (List Bool) := kslice 4 1 kbool
theorem u_134 : Tryz.prog.underlying 134 = some (.slice 4) := by kernel_rfl
theorem ag_134 : AggIs Tryz.prog 134 false := by unfold AggIs; kernel_rfl
theorem z_134 : (Tryz.prog.info? 134).map (·.zero) = some (some (.slice none 0 0)) := by kernel_rfl
theorem sz_134 : (Tryz.prog.info? 134).map (·.size) = some 1 := by kernel_rfl
theorem inf_4 : (Tryz.prog.info? 4).map (fun i => (i.size, i.bytes, i.zero)) = some (kbool.sz, 1, some (.bool false)) := by kernel_rfl
abbrev kSl_9 : Kd (List ByteArray) := kslice 9 16 kstr
theorem u_145 : Tryz.prog.underlying 145 = some (.slice 9) := by kernel_rfl
theorem ag_145 : AggIs Tryz.prog 145 false := by unfold AggIs; kernel_rfl
theorem z_145 : (Tryz.prog.info? 145).map (·.zero) = some (some (.slice none 0 0)) := by kernel_rfl
theorem sz_145 : (Tryz.prog.info? 145).map (·.size) = some 1 := by kernel_rfl
theorem inf_9 : (Tryz.prog.info? 9).map (fun i => (i.size, i.bytes, i.zero)) = some (kstr.sz, 16, some (.string ⟨#[]⟩)) := by kernel_rfl
theorem u_173 : Tryz.prog.underlying 173 = some (.int .u64) := by kernel_rfl
theorem sz_173 : (Tryz.prog.info? 173).map (·.size) = some 1 := by kernel_rfl
theorem z_173 : (Tryz.prog.info? 173).map (·.zero) = some (some (.int .u64 0)) := by kernel_rfl
theorem ag_173 : AggIs Tryz.prog 173 false := by unfold AggIs; kernel_rfl
def kT_185 : Kd RStat := kiso (kpair (kint .i64) (kpair (kint .i64) (kpair (kint .i64) (kpair (kint .i64) (kint .i64))))) (fun x => (x.code, x.inode, x.kind, x.links, x.size))
theorem sz_185 : (Tryz.prog.info? 185).map (·.size) = some 5 := by kernel_rfl
theorem z_185 : (Tryz.prog.info? 185).map (·.zero) = some (some (.agg #[.int .i64 0, .int .i64 0, .int .i64 0, .int .i64 0, .int .i64 0])) := by kernel_rfl
theorem ag_185 : AggIs Tryz.prog 185 true := by unfold AggIs; kernel_rfl
theorem bl_185 : BuildOk Tryz.prog 185 (.agg #[.int .i64 0, .int .i64 0, .int .i64 0, .int .i64 0, .int .i64 0]) #[(0, 1), (1, 1), (2, 1), (3, 1), (4, 1)] := ⟨by kernel_rfl, by kernel_rfl, fun w => by kernel_rfl⟩
theorem fa_185_0 (ad : Addr) (w : World) : (Instr.fieldAt 185 (.pointer (some ad)) 0).run Tryz.prog w = .ok (.pointer (some (ad.add 0))) w := by kernel_rfl
theorem fa_185_1 (ad : Addr) (w : World) : (Instr.fieldAt 185 (.pointer (some ad)) 1).run Tryz.prog w = .ok (.pointer (some (ad.add 1))) w := by kernel_rfl
theorem fa_185_2 (ad : Addr) (w : World) : (Instr.fieldAt 185 (.pointer (some ad)) 2).run Tryz.prog w = .ok (.pointer (some (ad.add 2))) w := by kernel_rfl
theorem fa_185_3 (ad : Addr) (w : World) : (Instr.fieldAt 185 (.pointer (some ad)) 3).run Tryz.prog w = .ok (.pointer (some (ad.add 3))) w := by kernel_rfl
theorem fa_185_4 (ad : Addr) (w : World) : (Instr.fieldAt 185 (.pointer (some ad)) 4).run Tryz.prog w = .ok (.pointer (some (ad.add 4))) w := by kernel_rfl
theorem ent_gd_185 : Tryz.prog.eqGuardType Tryz.prog.depth 185 = false := by kernel_rfl
theorem ent_eq_185 (x y : RStat) (w : World) : (Op.equalIn 10000 185 (.agg #[.int .i64 x.code, .int .i64 x.inode, .int .i64 x.kind, .int .i64 x.links, .int .i64 x.size]) (.agg #[.int .i64 y.code, .int .i64 y.inode, .int .i64 y.kind, .int .i64 y.links, .int .i64 y.size])).run Tryz.prog w = .ok (decide (x = y)) w := by
  rw [run_equalIn_struct w 9999 185 _ _ (by kernel_rfl) (by kernel_rfl)]
  rw [show (Tryz.prog.fieldsOf 185).toList = [(Tryz.prog.fieldsOf 185)[0]!, (Tryz.prog.fieldsOf 185)[1]!, (Tryz.prog.fieldsOf 185)[2]!, (Tryz.prog.fieldsOf 185)[3]!, (Tryz.prog.fieldsOf 185)[4]!] by kernel_rfl]
  refine ((eqFs_cons (a := .int .i64 x.code) (b := .int .i64 y.code) (by kernel_rfl) (fun w => by kernel_rfl) (fun w => by kernel_rfl) (fun w => run_equalIn_int w 9998 _ .i64 .i64 x.code y.code (by kernel_rfl)) (eqFs_cons (a := .int .i64 x.inode) (b := .int .i64 y.inode) (by kernel_rfl) (fun w => by kernel_rfl) (fun w => by kernel_rfl) (fun w => run_equalIn_int w 9998 _ .i64 .i64 x.inode y.inode (by kernel_rfl)) (eqFs_cons (a := .int .i64 x.kind) (b := .int .i64 y.kind) (by kernel_rfl) (fun w => by kernel_rfl) (fun w => by kernel_rfl) (fun w => run_equalIn_int w 9998 _ .i64 .i64 x.kind y.kind (by kernel_rfl)) (eqFs_cons (a := .int .i64 x.links) (b := .int .i64 y.links) (by kernel_rfl) (fun w => by kernel_rfl) (fun w => by kernel_rfl) (fun w => run_equalIn_int w 9998 _ .i64 .i64 x.links y.links (by kernel_rfl)) (eqFs_cons (a := .int .i64 x.size) (b := .int .i64 y.size) (by kernel_rfl) (fun w => by kernel_rfl) (fun w => by kernel_rfl) (fun w => run_equalIn_int w 9998 _ .i64 .i64 x.size y.size (by kernel_rfl)) eqFs_nil))))) w).trans ?_
  congr 1; cases x; cases y; simp only [beq_str, beq_int, Bool.and_true, RStat.mk.injEq, Bool.decide_and]
theorem kT_185_ro {w : World} {F : Bs} {x : RStat} {cs : List Value} (h : kT_185.ro w F x cs) : cs = [.int .i64 x.code, .int .i64 x.inode, .int .i64 x.kind, .int .i64 x.links, .int .i64 x.size] := by
  obtain ⟨_, _, rfl, ⟨rfl, -⟩, ⟨_, _, rfl, ⟨rfl, -⟩, ⟨_, _, rfl, ⟨rfl, -⟩, ⟨_, _, rfl, ⟨rfl, -⟩, ⟨rfl, -⟩⟩⟩⟩⟩ := h
  exact rfl
theorem kT_185_mk {w : World} {F : Bs} (x : RStat) : kT_185.ro w F x [.int .i64 x.code, .int .i64 x.inode, .int .i64 x.kind, .int .i64 x.links, .int .i64 x.size] :=
  ⟨_, _, rfl, ⟨rfl, trivial⟩, ⟨_, _, rfl, ⟨rfl, trivial⟩, ⟨_, _, rfl, ⟨rfl, trivial⟩, ⟨_, _, rfl, ⟨rfl, trivial⟩, ⟨rfl, trivial⟩⟩⟩⟩⟩
theorem kT_185_own {w : World} {S : Bs} {x : RStat} {cs : List Value} (h : kT_185.own w S x cs) : cs = [.int .i64 x.code, .int .i64 x.inode, .int .i64 x.kind, .int .i64 x.links, .int .i64 x.size] ∧ Star [] w S := by
  obtain ⟨_, _, rfl, a0⟩ := h
  obtain ⟨p0, q0, b0, c0, i0, j0, k0⟩ := star2 a0
  obtain ⟨rfl, -⟩ := b0
  obtain ⟨_, _, rfl, a1⟩ := c0
  obtain ⟨p1, q1, b1, c1, i1, j1, k1⟩ := star2 a1
  obtain ⟨rfl, -⟩ := b1
  obtain ⟨_, _, rfl, a2⟩ := c1
  obtain ⟨p2, q2, b2, c2, i2, j2, k2⟩ := star2 a2
  obtain ⟨rfl, -⟩ := b2
  obtain ⟨_, _, rfl, a3⟩ := c2
  obtain ⟨p3, q3, b3, c3, i3, j3, k3⟩ := star2 a3
  obtain ⟨rfl, -⟩ := b3
  obtain ⟨rfl, -⟩ := c3
  exact ⟨rfl, trivial⟩
theorem kT_185_op {x : RStat} {cs : List Value} (w : World) (S : Bs) (h : Star [ownA kT_185 x cs] w S) : ∃ g : Unit, cs = [.int .i64 x.code, .int .i64 x.inode, .int .i64 x.kind, .int .i64 x.links, .int .i64 x.size] ∧ Star [] w S := by
  obtain ⟨h1, h2⟩ := kT_185_own (show kT_185.own w S x cs from h.head (c := ownA kT_185 x cs))
  exact ⟨(), h1, h2⟩
theorem kT_185_omk {w : World} {S : Bs} (x : RStat) (h : Star [] w S) : kT_185.own w S x [.int .i64 x.code, .int .i64 x.inode, .int .i64 x.kind, .int .i64 x.links, .int .i64 x.size] := by
  have m1 : Mk (kint .i64) x.code [.int .i64 x.code] [] := mk_int
  have m2 : Mk (kint .i64) x.inode [.int .i64 x.inode] [] := mk_int
  have m3 : Mk (kint .i64) x.kind [.int .i64 x.kind] [] := mk_int
  have m4 : Mk (kint .i64) x.links [.int .i64 x.links] [] := mk_int
  have m5 : Mk (kint .i64) x.size [.int .i64 x.size] [] := mk_int
  have m6 : Mk (kpair (kint .i64) (kint .i64)) (x.links, x.size) ([.int .i64 x.links] ++ [.int .i64 x.size]) ([] ++ []) := mk_pair m4 m5
  have m7 : Mk (kpair (kint .i64) (kpair (kint .i64) (kint .i64))) (x.kind, (x.links, x.size)) ([.int .i64 x.kind] ++ ([.int .i64 x.links] ++ [.int .i64 x.size])) ([] ++ ([] ++ [])) := mk_pair m3 m6
  have m8 : Mk (kpair (kint .i64) (kpair (kint .i64) (kpair (kint .i64) (kint .i64)))) (x.inode, (x.kind, (x.links, x.size))) ([.int .i64 x.inode] ++ ([.int .i64 x.kind] ++ ([.int .i64 x.links] ++ [.int .i64 x.size]))) ([] ++ ([] ++ ([] ++ []))) := mk_pair m2 m7
  have m9 : Mk (kpair (kint .i64) (kpair (kint .i64) (kpair (kint .i64) (kpair (kint .i64) (kint .i64))))) (x.code, (x.inode, (x.kind, (x.links, x.size)))) ([.int .i64 x.code] ++ ([.int .i64 x.inode] ++ ([.int .i64 x.kind] ++ ([.int .i64 x.links] ++ [.int .i64 x.size])))) ([] ++ ([] ++ ([] ++ ([] ++ [])))) := mk_pair m1 m8
  have m0 : Mk kT_185 x ([.int .i64 x.code] ++ ([.int .i64 x.inode] ++ ([.int .i64 x.kind] ++ ([.int .i64 x.links] ++ [.int .i64 x.size])))) ([] ++ ([] ++ ([] ++ ([] ++ [])))) := m9
  exact m0 w S h
def RA_185 (x : RStat) (r : Value) (l : List Asn) : Prop := r = .agg #[.int .i64 x.code, .int .i64 x.inode, .int .i64 x.kind, .int .i64 x.links, .int .i64 x.size] ∧ l = []
theorem zero_185 (w : World) (S : Bs) : kT_185.own w S (⟨0, 0, 0, 0, 0⟩ : RStat) [.int .i64 0, .int .i64 0, .int .i64 0, .int .i64 0, .int .i64 0] := kT_185_omk (⟨0, 0, 0, 0, 0⟩ : RStat) (trivial)
def PA_185 (g e s : Nat) (post : List Value) (x : RStat) (r : Value) (l : List Asn) : Prop := r = .tuple #[] ∧ l = [rowA g e s 1 ((.int .i64 x.code) :: (.int .i64 x.inode) :: (.int .i64 x.kind) :: (.int .i64 x.links) :: (.int .i64 x.size) :: post)]
def kT_188 : Kd RNames := kiso (kpair (kint .i64) kSl_9) (fun x => (x.code, x.names))
theorem sz_188 : (Tryz.prog.info? 188).map (·.size) = some 2 := by kernel_rfl
theorem z_188 : (Tryz.prog.info? 188).map (·.zero) = some (some (.agg #[.int .i64 0, .slice none 0 0])) := by kernel_rfl
theorem ag_188 : AggIs Tryz.prog 188 true := by unfold AggIs; kernel_rfl
theorem bl_188 : BuildOk Tryz.prog 188 (.agg #[.int .i64 0, .slice none 0 0]) #[(0, 1), (1, 1)] := ⟨by kernel_rfl, by kernel_rfl, fun w => by kernel_rfl⟩
theorem fa_188_0 (ad : Addr) (w : World) : (Instr.fieldAt 188 (.pointer (some ad)) 0).run Tryz.prog w = .ok (.pointer (some (ad.add 0))) w := by kernel_rfl
theorem fa_188_1 (ad : Addr) (w : World) : (Instr.fieldAt 188 (.pointer (some ad)) 1).run Tryz.prog w = .ok (.pointer (some (ad.add 1))) w := by kernel_rfl
theorem kT_188_ro {w : World} {F : Bs} {x : RNames} {cs : List Value} (h : kT_188.ro w F x cs) : ∃ v1, cs = [.int .i64 x.code, v1] ∧ kSl_9.ro w F x.names [v1] := by
  obtain ⟨_, _, rfl, ⟨rfl, -⟩, h1⟩ := h
  obtain ⟨v1, rfl⟩ := sl_one h1
  exact ⟨v1, rfl, h1⟩
theorem kT_188_mk {w : World} {F : Bs} (x : RNames) {v1 : Value} (h1 : kSl_9.ro w F x.names [v1]) : kT_188.ro w F x [.int .i64 x.code, v1] :=
  ⟨_, _, rfl, ⟨rfl, trivial⟩, h1⟩
theorem kT_188_own {w : World} {S : Bs} {x : RNames} {cs : List Value} (h : kT_188.own w S x cs) : ∃ v1, cs = [.int .i64 x.code, v1] ∧ Star [ownA kSl_9 x.names [v1]] w S := by
  obtain ⟨_, _, rfl, a0⟩ := h
  obtain ⟨p0, q0, b0, c0, i0, j0, k0⟩ := star2 a0
  obtain ⟨rfl, -⟩ := b0
  obtain ⟨v1, rfl⟩ := osl_one c0
  have g1 := Star.one (c := ownA kSl_9 x.names [v1]) c0
  have g2 := g1.up j0
  exact ⟨v1, rfl, g2⟩
theorem kT_188_op {x : RNames} {cs : List Value} (w : World) (S : Bs) (h : Star [ownA kT_188 x cs] w S) : ∃ g : Value, cs = [.int .i64 x.code, g] ∧ Star [ownA kSl_9 x.names [g]] w S := by
  obtain ⟨v1, h1, h2⟩ := kT_188_own (show kT_188.own w S x cs from h.head (c := ownA kT_188 x cs))
  exact ⟨(v1), h1, h2⟩
theorem kT_188_omk {w : World} {S : Bs} (x : RNames) {v1 : Value} (h : Star [ownA kSl_9 x.names [v1]] w S) : kT_188.own w S x [.int .i64 x.code, v1] := by
  have m1 : Mk (kint .i64) x.code [.int .i64 x.code] [] := mk_int
  have m2 : Mk kSl_9 x.names [v1] [ownA kSl_9 x.names [v1]] := mk_leaf
  have m3 : Mk (kpair (kint .i64) kSl_9) (x.code, x.names) ([.int .i64 x.code] ++ [v1]) ([] ++ [ownA kSl_9 x.names [v1]]) := mk_pair m1 m2
  have m0 : Mk kT_188 x ([.int .i64 x.code] ++ [v1]) ([] ++ [ownA kSl_9 x.names [v1]]) := m3
  exact m0 w S h
def RA_188 (x : RNames) (r : Value) (l : List Asn) : Prop := ∃ v1, r = .agg #[.int .i64 x.code, v1] ∧ l = [ownA kSl_9 x.names [v1]]
theorem zero_188 (w : World) (S : Bs) : kT_188.own w S (⟨0, []⟩ : RNames) [.int .i64 0, .slice none 0 0] := kT_188_omk (⟨0, []⟩ : RNames) (⟨fun _ => False, fun _ => False, own_nil _ _ none, trivial, fun _ h => h.elim, fun _ h => h.elim, fun _ h => h.elim⟩)
def PA_188 (g e s : Nat) (post : List Value) (x : RNames) (r : Value) (l : List Asn) : Prop := ∃ v1, r = .tuple #[] ∧ l = [rowA g e s 1 ((.int .i64 x.code) :: v1 :: post), ownA kSl_9 x.names [v1]]
theorem u_193 : Tryz.prog.underlying 193 = some (.int .i64) := by kernel_rfl
theorem sz_193 : (Tryz.prog.info? 193).map (·.size) = some 1 := by kernel_rfl
theorem z_193 : (Tryz.prog.info? 193).map (·.zero) = some (some (.int .i64 0)) := by kernel_rfl
theorem ag_193 : AggIs Tryz.prog 193 false := by unfold AggIs; kernel_rfl
theorem u_202 : Tryz.prog.underlying 202 = some (.int .u32) := by kernel_rfl
theorem sz_202 : (Tryz.prog.info? 202).map (·.size) = some 1 := by kernel_rfl
theorem z_202 : (Tryz.prog.info? 202).map (·.zero) = some (some (.int .u32 0)) := by kernel_rfl
theorem ag_202 : AggIs Tryz.prog 202 false := by unfold AggIs; kernel_rfl
theorem u_204 : Tryz.prog.underlying 204 = some (.int .u64) := by kernel_rfl
theorem sz_204 : (Tryz.prog.info? 204).map (·.size) = some 1 := by kernel_rfl
theorem z_204 : (Tryz.prog.info? 204).map (·.zero) = some (some (.int .u64 0)) := by kernel_rfl
theorem ag_204 : AggIs Tryz.prog 204 false := by unfold AggIs; kernel_rfl
theorem u_215 : Tryz.prog.underlying 215 = some (.int .u64) := by kernel_rfl
theorem sz_215 : (Tryz.prog.info? 215).map (·.size) = some 1 := by kernel_rfl
theorem z_215 : (Tryz.prog.info? 215).map (·.zero) = some (some (.int .u64 0)) := by kernel_rfl
theorem ag_215 : AggIs Tryz.prog 215 false := by unfold AggIs; kernel_rfl
end Go.Proofs.YtbcdcakcmdcafaaGreat

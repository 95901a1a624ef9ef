/- What is proved: the kinds of this program's types, laid open and put together; facts on its types. No condition. -/
import Derived.Test.YticaddophhggoaaProg
import Derived.Test.YticaddophhggoaaBase0
import Derived.Test.YticaddophhggoaaBase1
namespace Go.Proofs.Yticaddophhggoaa
open Go Go.RowKit
set_option maxRecDepth 100000
set_option linter.unusedVariables false
set_option linter.unusedSimpArgs false
theorem u_2 : Try.prog.underlying 2 = some (.int .i64) := by kernel_rfl
theorem sz_2 : (Try.prog.info? 2).map (·.size) = some 1 := by kernel_rfl
theorem z_2 : (Try.prog.info? 2).map (·.zero) = some (some (.int .i64 0)) := by kernel_rfl
theorem ag_2 : AggIs Try.prog 2 false := by unfold AggIs; kernel_rfl
theorem u_3 : Try.prog.underlying 3 = some (.int .i64) := by kernel_rfl
theorem sz_3 : (Try.prog.info? 3).map (·.size) = some 1 := by kernel_rfl
theorem z_3 : (Try.prog.info? 3).map (·.zero) = some (some (.int .i64 0)) := by kernel_rfl
theorem ag_3 : AggIs Try.prog 3 false := by unfold AggIs; kernel_rfl
theorem u_4 : Try.prog.underlying 4 = some .bool := by kernel_rfl
theorem sz_4 : (Try.prog.info? 4).map (·.size) = some 1 := by kernel_rfl
theorem z_4 : (Try.prog.info? 4).map (·.zero) = some (some (.bool false)) := by kernel_rfl
theorem ag_4 : AggIs Try.prog 4 false := by unfold AggIs; kernel_rfl
theorem u_5 : Try.prog.underlying 5 = some (.int .u8) := by kernel_rfl
theorem sz_5 : (Try.prog.info? 5).map (·.size) = some 1 := by kernel_rfl
theorem z_5 : (Try.prog.info? 5).map (·.zero) = some (some (.int .u8 0)) := by kernel_rfl
theorem ag_5 : AggIs Try.prog 5 false := by unfold AggIs; kernel_rfl
theorem u_9 : Try.prog.underlying 9 = some .string := by kernel_rfl
theorem sz_9 : (Try.prog.info? 9).map (·.size) = some 1 := by kernel_rfl
theorem z_9 : (Try.prog.info? 9).map (·.zero) = some (some (.string ⟨#[]⟩)) := by kernel_rfl
theorem ag_9 : AggIs Try.prog 9 false := by unfold AggIs; kernel_rfl
abbrev kSl_2 : Kd (List Int) := kslice 2 8 (kint .i64)
theorem u_39 : Try.prog.underlying 39 = some (.slice 2) := by kernel_rfl
theorem ag_39 : AggIs Try.prog 39 false := by unfold AggIs; kernel_rfl
theorem z_39 : (Try.prog.info? 39).map (·.zero) = some (some (.slice none 0 0)) := by kernel_rfl
theorem sz_39 : (Try.prog.info? 39).map (·.size) = some 1 := by kernel_rfl
theorem inf_2 : (Try.prog.info? 2).map (fun i => (i.size, i.bytes, i.zero)) = some ((kint .i64).sz, 8, some (.int .i64 0)) := by kernel_rfl
def kT_87 : Kd DEnt := kiso (kpair kstr (kint .i64)) (fun x => (x.name, x.ino))
theorem sz_87 : (Try.prog.info? 87).map (·.size) = some 2 := by kernel_rfl
theorem z_87 : (Try.prog.info? 87).map (·.zero) = some (some (.agg #[.string ⟨#[]⟩, .int .i64 0])) := by kernel_rfl
theorem ag_87 : AggIs Try.prog 87 true := by unfold AggIs; kernel_rfl
theorem bl_87 : BuildOk Try.prog 87 (.agg #[.string ⟨#[]⟩, .int .i64 0]) #[(0, 1), (1, 1)] := ⟨by kernel_rfl, by kernel_rfl, fun w => by kernel_rfl⟩
theorem fa_87_0 (ad : Addr) (w : World) : (Instr.fieldAt 87 (.pointer (some ad)) 0).run Try.prog w = .ok (.pointer (some (ad.add 0))) w := by kernel_rfl
theorem fa_87_1 (ad : Addr) (w : World) : (Instr.fieldAt 87 (.pointer (some ad)) 1).run Try.prog w = .ok (.pointer (some (ad.add 1))) w := by kernel_rfl
theorem ent_gd_87 : Try.prog.eqGuardType Try.prog.depth 87 = false := by kernel_rfl
theorem ent_eq_87 (x y : DEnt) (w : World) : (Op.equalIn 10000 87 (.agg #[.string x.name, .int .i64 x.ino]) (.agg #[.string y.name, .int .i64 y.ino])).run Try.prog w = .ok (decide (x = y)) w := by
  rw [run_equalIn_struct w 9999 87 _ _ (by kernel_rfl) (by kernel_rfl)]
  rw [show (Try.prog.fieldsOf 87).toList = [(Try.prog.fieldsOf 87)[0]!, (Try.prog.fieldsOf 87)[1]!] by kernel_rfl]
  refine ((eqFs_cons (a := .string x.name) (b := .string y.name) (by kernel_rfl) (fun w => by kernel_rfl) (fun w => by kernel_rfl) (fun w => run_equalIn_string w 9998 _ x.name y.name (by kernel_rfl)) (eqFs_cons (a := .int .i64 x.ino) (b := .int .i64 y.ino) (by kernel_rfl) (fun w => by kernel_rfl) (fun w => by kernel_rfl) (fun w => run_equalIn_int w 9998 _ .i64 .i64 x.ino y.ino (by kernel_rfl)) eqFs_nil)) w).trans ?_
  congr 1; cases x; cases y; simp only [beq_str, beq_int, Bool.and_true, DEnt.mk.injEq, Bool.decide_and]
theorem kT_87_ro {w : World} {F : Bs} {x : DEnt} {cs : List Value} (h : kT_87.ro w F x cs) : cs = [.string x.name, .int .i64 x.ino] ∧ x.name.size ≤ 140737488351232 := by
  obtain ⟨_, _, rfl, ⟨rfl, s0⟩, ⟨rfl, -⟩⟩ := h
  exact ⟨rfl, s0⟩
theorem kT_87_mk {w : World} {F : Bs} (x : DEnt) (s0 : x.name.size ≤ 140737488351232) : kT_87.ro w F x [.string x.name, .int .i64 x.ino] :=
  ⟨_, _, rfl, ⟨rfl, s0⟩, ⟨rfl, trivial⟩⟩
theorem kT_87_own {w : World} {S : Bs} {x : DEnt} {cs : List Value} (h : kT_87.own w S x cs) : cs = [.string x.name, .int .i64 x.ino] ∧ Star [] w S ∧ x.name.size ≤ 140737488351232 := by
  obtain ⟨_, _, rfl, a0⟩ := h
  obtain ⟨p0, q0, b0, c0, i0, j0, k0⟩ := star2 a0
  obtain ⟨rfl, s0⟩ := b0
  obtain ⟨rfl, -⟩ := c0
  exact ⟨rfl, trivial, s0⟩
theorem kT_87_op {x : DEnt} {cs : List Value} (w : World) (S : Bs) (h : Star [ownA kT_87 x cs] w S) : ∃ g : Unit, (cs = [.string x.name, .int .i64 x.ino] ∧ x.name.size ≤ 140737488351232) ∧ Star [] w S := by
  obtain ⟨h1, h2, s0⟩ := kT_87_own (show kT_87.own w S x cs from h.head (c := ownA kT_87 x cs))
  exact ⟨(), ⟨h1, s0⟩, h2⟩
theorem kT_87_omk {w : World} {S : Bs} (x : DEnt) (h : Star [] w S) (s0 : x.name.size ≤ 140737488351232) : kT_87.own w S x [.string x.name, .int .i64 x.ino] := by
  have m1 : Mk kstr x.name [.string x.name] [] := (mk_str s0)
  have m2 : Mk (kint .i64) x.ino [.int .i64 x.ino] [] := mk_int
  have m3 : Mk (kpair kstr (kint .i64)) (x.name, x.ino) ([.string x.name] ++ [.int .i64 x.ino]) ([] ++ []) := mk_pair m1 m2
  have m0 : Mk kT_87 x ([.string x.name] ++ [.int .i64 x.ino]) ([] ++ []) := m3
  exact m0 w S h
def RA_87 (x : DEnt) (r : Value) (l : List Asn) : Prop := r = .agg #[.string x.name, .int .i64 x.ino] ∧ l = [] ∧ x.name.size ≤ 140737488351232
theorem zero_87 (w : World) (S : Bs) : kT_87.own w S (⟨⟨#[]⟩, 0⟩ : DEnt) [.string ⟨#[]⟩, .int .i64 0] := kT_87_omk (⟨⟨#[]⟩, 0⟩ : DEnt) (trivial) (by decide)
def PA_87 (g e s : Nat) (post : List Value) (x : DEnt) (r : Value) (l : List Asn) : Prop := r = .tuple #[] ∧ l = [rowA g e s 1 ((.string x.name) :: (.int .i64 x.ino) :: post)] ∧ x.name.size ≤ 140737488351232
abbrev kSl_87 : Kd (List DEnt) := kslice 87 24 kT_87
theorem u_53 : Try.prog.underlying 53 = some (.slice 87) := by kernel_rfl
theorem ag_53 : AggIs Try.prog 53 false := by unfold AggIs; kernel_rfl
theorem z_53 : (Try.prog.info? 53).map (·.zero) = some (some (.slice none 0 0)) := by kernel_rfl
theorem sz_53 : (Try.prog.info? 53).map (·.size) = some 1 := by kernel_rfl
theorem inf_87 : (Try.prog.info? 87).map (fun i => (i.size, i.bytes, i.zero)) = some (kT_87.sz, 24, some (.agg #[.string ⟨#[]⟩, .int .i64 0])) := by kernel_rfl
def kT_55 : Kd DInode := kiso (kpair (kint .i64) (kpair (kint .i64) (kpair (kint .i64) (kpair kSl_2 kSl_87)))) (fun x => (x.kind, x.links, x.size, x.blocks, x.ents))
theorem sz_55 : (Try.prog.info? 55).map (·.size) = some 5 := by kernel_rfl
theorem z_55 : (Try.prog.info? 55).map (·.zero) = some (some (.agg #[.int .i64 0, .int .i64 0, .int .i64 0, .slice none 0 0, .slice none 0 0])) := by kernel_rfl
theorem ag_55 : AggIs Try.prog 55 true := by unfold AggIs; kernel_rfl
theorem bl_55 : BuildOk Try.prog 55 (.agg #[.int .i64 0, .int .i64 0, .int .i64 0, .slice none 0 0, .slice none 0 0]) #[(0, 1), (1, 1), (2, 1), (3, 1), (4, 1)] := ⟨by kernel_rfl, by kernel_rfl, fun w => by kernel_rfl⟩
theorem fa_55_0 (ad : Addr) (w : World) : (Instr.fieldAt 55 (.pointer (some ad)) 0).run Try.prog w = .ok (.pointer (some (ad.add 0))) w := by kernel_rfl
theorem fa_55_1 (ad : Addr) (w : World) : (Instr.fieldAt 55 (.pointer (some ad)) 1).run Try.prog w = .ok (.pointer (some (ad.add 1))) w := by kernel_rfl
theorem fa_55_2 (ad : Addr) (w : World) : (Instr.fieldAt 55 (.pointer (some ad)) 2).run Try.prog w = .ok (.pointer (some (ad.add 2))) w := by kernel_rfl
theorem fa_55_3 (ad : Addr) (w : World) : (Instr.fieldAt 55 (.pointer (some ad)) 3).run Try.prog w = .ok (.pointer (some (ad.add 3))) w := by kernel_rfl
theorem fa_55_4 (ad : Addr) (w : World) : (Instr.fieldAt 55 (.pointer (some ad)) 4).run Try.prog w = .ok (.pointer (some (ad.add 4))) w := by kernel_rfl
theorem kT_55_ro {w : World} {F : Bs} {x : DInode} {cs : List Value} (h : kT_55.ro w F x cs) : ∃ v3 v4, cs = [.int .i64 x.kind, .int .i64 x.links, .int .i64 x.size, v3, v4] ∧ kSl_2.ro w F x.blocks [v3] ∧ kSl_87.ro w F x.ents [v4] := by
  obtain ⟨_, _, rfl, ⟨rfl, -⟩, ⟨_, _, rfl, ⟨rfl, -⟩, ⟨_, _, rfl, ⟨rfl, -⟩, ⟨_, _, rfl, h3, h4⟩⟩⟩⟩ := h
  obtain ⟨v3, rfl⟩ := sl_one h3
  obtain ⟨v4, rfl⟩ := sl_one h4
  exact ⟨v3, v4, rfl, h3, h4⟩
theorem kT_55_mk {w : World} {F : Bs} (x : DInode) {v3 : Value} {v4 : Value} (h3 : kSl_2.ro w F x.blocks [v3]) (h4 : kSl_87.ro w F x.ents [v4]) : kT_55.ro w F x [.int .i64 x.kind, .int .i64 x.links, .int .i64 x.size, v3, v4] :=
  ⟨_, _, rfl, ⟨rfl, trivial⟩, ⟨_, _, rfl, ⟨rfl, trivial⟩, ⟨_, _, rfl, ⟨rfl, trivial⟩, ⟨_, _, rfl, h3, h4⟩⟩⟩⟩
theorem kT_55_own {w : World} {S : Bs} {x : DInode} {cs : List Value} (h : kT_55.own w S x cs) : ∃ v3 v4, cs = [.int .i64 x.kind, .int .i64 x.links, .int .i64 x.size, v3, v4] ∧ Star [ownA kSl_2 x.blocks [v3], ownA kSl_87 x.ents [v4]] w S := by
  obtain ⟨_, _, rfl, a0⟩ := h
  obtain ⟨p0, q0, b0, c0, i0, j0, k0⟩ := star2 a0
  obtain ⟨rfl, -⟩ := b0
  obtain ⟨_, _, rfl, a1⟩ := c0
  obtain ⟨p1, q1, b1, c1, i1, j1, k1⟩ := star2 a1
  obtain ⟨rfl, -⟩ := b1
  obtain ⟨_, _, rfl, a2⟩ := c1
  obtain ⟨p2, q2, b2, c2, i2, j2, k2⟩ := star2 a2
  obtain ⟨rfl, -⟩ := b2
  obtain ⟨_, _, rfl, a3⟩ := c2
  obtain ⟨p3, q3, b3, c3, i3, j3, k3⟩ := star2 a3
  obtain ⟨v3, rfl⟩ := osl_one b3
  have g4 := Star.one (c := ownA kSl_2 x.blocks [v3]) b3
  obtain ⟨v4, rfl⟩ := osl_one c3
  have g5 := Star.one (c := ownA kSl_87 x.ents [v4]) c3
  have g6 := g4.app g5 i3 j3 k3
  have g7 := g6.up j2
  have g8 := g7.up j1
  have g9 := g8.up j0
  exact ⟨v3, v4, rfl, g9⟩
theorem kT_55_op {x : DInode} {cs : List Value} (w : World) (S : Bs) (h : Star [ownA kT_55 x cs] w S) : ∃ g : Value × Value, cs = [.int .i64 x.kind, .int .i64 x.links, .int .i64 x.size, g.1, g.2] ∧ Star [ownA kSl_2 x.blocks [g.1], ownA kSl_87 x.ents [g.2]] w S := by
  obtain ⟨v3, v4, h1, h2⟩ := kT_55_own (show kT_55.own w S x cs from h.head (c := ownA kT_55 x cs))
  exact ⟨(v3, v4), h1, h2⟩
theorem kT_55_omk {w : World} {S : Bs} (x : DInode) {v3 : Value} {v4 : Value} (h : Star [ownA kSl_2 x.blocks [v3], ownA kSl_87 x.ents [v4]] w S) : kT_55.own w S x [.int .i64 x.kind, .int .i64 x.links, .int .i64 x.size, v3, v4] := by
  have m1 : Mk (kint .i64) x.kind [.int .i64 x.kind] [] := mk_int
  have m2 : Mk (kint .i64) x.links [.int .i64 x.links] [] := mk_int
  have m3 : Mk (kint .i64) x.size [.int .i64 x.size] [] := mk_int
  have m4 : Mk kSl_2 x.blocks [v3] [ownA kSl_2 x.blocks [v3]] := mk_leaf
  have m5 : Mk kSl_87 x.ents [v4] [ownA kSl_87 x.ents [v4]] := mk_leaf
  have m6 : Mk (kpair kSl_2 kSl_87) (x.blocks, x.ents) ([v3] ++ [v4]) ([ownA kSl_2 x.blocks [v3]] ++ [ownA kSl_87 x.ents [v4]]) := mk_pair m4 m5
  have m7 : Mk (kpair (kint .i64) (kpair kSl_2 kSl_87)) (x.size, (x.blocks, x.ents)) ([.int .i64 x.size] ++ ([v3] ++ [v4])) ([] ++ ([ownA kSl_2 x.blocks [v3]] ++ [ownA kSl_87 x.ents [v4]])) := mk_pair m3 m6
  have m8 : Mk (kpair (kint .i64) (kpair (kint .i64) (kpair kSl_2 kSl_87))) (x.links, (x.size, (x.blocks, x.ents))) ([.int .i64 x.links] ++ ([.int .i64 x.size] ++ ([v3] ++ [v4]))) ([] ++ ([] ++ ([ownA kSl_2 x.blocks [v3]] ++ [ownA kSl_87 x.ents [v4]]))) := mk_pair m2 m7
  have m9 : Mk (kpair (kint .i64) (kpair (kint .i64) (kpair (kint .i64) (kpair kSl_2 kSl_87)))) (x.kind, (x.links, (x.size, (x.blocks, x.ents)))) ([.int .i64 x.kind] ++ ([.int .i64 x.links] ++ ([.int .i64 x.size] ++ ([v3] ++ [v4])))) ([] ++ ([] ++ ([] ++ ([ownA kSl_2 x.blocks [v3]] ++ [ownA kSl_87 x.ents [v4]])))) := mk_pair m1 m8
  have m0 : Mk kT_55 x ([.int .i64 x.kind] ++ ([.int .i64 x.links] ++ ([.int .i64 x.size] ++ ([v3] ++ [v4])))) ([] ++ ([] ++ ([] ++ ([ownA kSl_2 x.blocks [v3]] ++ [ownA kSl_87 x.ents [v4]])))) := m9
  exact m0 w S h
def RA_55 (x : DInode) (r : Value) (l : List Asn) : Prop := ∃ v3 v4, r = .agg #[.int .i64 x.kind, .int .i64 x.links, .int .i64 x.size, v3, v4] ∧ l = [ownA kSl_2 x.blocks [v3], ownA kSl_87 x.ents [v4]]
theorem zero_55 (w : World) (S : Bs) : kT_55.own w S (⟨0, 0, 0, [], []⟩ : DInode) [.int .i64 0, .int .i64 0, .int .i64 0, .slice none 0 0, .slice none 0 0] := kT_55_omk (⟨0, 0, 0, [], []⟩ : DInode) (⟨fun _ => False, fun _ => False, own_nil _ _ none, ⟨fun _ => False, fun _ => False, own_nil _ _ none, trivial, fun _ h => h.elim, fun _ h => h.elim, fun _ h => h.elim⟩, fun _ h => h.elim, fun _ h => h.elim, fun _ h => h.elim⟩)
def PA_55 (g e s : Nat) (post : List Value) (x : DInode) (r : Value) (l : List Asn) : Prop := ∃ v3 v4, r = .tuple #[] ∧ l = [rowA g e s 1 ((.int .i64 x.kind) :: (.int .i64 x.links) :: (.int .i64 x.size) :: v3 :: v4 :: post), ownA kSl_2 x.blocks [v3], ownA kSl_87 x.ents [v4]]
abbrev kSl_55 : Kd (List DInode) := kslice 55 72 kT_55
theorem u_22 : Try.prog.underlying 22 = some (.slice 55) := by kernel_rfl
theorem ag_22 : AggIs Try.prog 22 false := by unfold AggIs; kernel_rfl
theorem z_22 : (Try.prog.info? 22).map (·.zero) = some (some (.slice none 0 0)) := by kernel_rfl
theorem sz_22 : (Try.prog.info? 22).map (·.size) = some 1 := by kernel_rfl
theorem inf_55 : (Try.prog.info? 55).map (fun i => (i.size, i.bytes, i.zero)) = some (kT_55.sz, 72, some (.agg #[.int .i64 0, .int .i64 0, .int .i64 0, .slice none 0 0, .slice none 0 0])) := by kernel_rfl
abbrev kSl_5 : Kd (List UInt8) := kslice 5 1 kbyte
theorem u_57 : Try.prog.underlying 57 = some (.slice 5) := by kernel_rfl
theorem ag_57 : AggIs Try.prog 57 false := by unfold AggIs; kernel_rfl
theorem z_57 : (Try.prog.info? 57).map (·.zero) = some (some (.slice none 0 0)) := by kernel_rfl
theorem sz_57 : (Try.prog.info? 57).map (·.size) = some 1 := by kernel_rfl
theorem inf_5 : (Try.prog.info? 5).map (fun i => (i.size, i.bytes, i.zero)) = some (kbyte.sz, 1, some (.int .u8 0)) := by kernel_rfl
abbrev kSl_57 : Kd (List (List UInt8)) := kslice 57 24 kSl_5
theorem u_23 : Try.prog.underlying 23 = some (.slice 57) := by kernel_rfl
theorem ag_23 : AggIs Try.prog 23 false := by unfold AggIs; kernel_rfl
theorem z_23 : (Try.prog.info? 23).map (·.zero) = some (some (.slice none 0 0)) := by kernel_rfl
theorem sz_23 : (Try.prog.info? 23).map (·.size) = some 1 := by kernel_rfl
theorem inf_57 : (Try.prog.info? 57).map (fun i => (i.size, i.bytes, i.zero)) = some (kSl_5.sz, 24, some (.slice none 0 0)) := by kernel_rfl
def kT_25 : Kd DFs := kiso (kpair kSl_55 kSl_57) (fun x => (x.inodes, x.data))
theorem sz_25 : (Try.prog.info? 25).map (·.size) = some 2 := by kernel_rfl
theorem z_25 : (Try.prog.info? 25).map (·.zero) = some (some (.agg #[.slice none 0 0, .slice none 0 0])) := by kernel_rfl
theorem ag_25 : AggIs Try.prog 25 true := by unfold AggIs; kernel_rfl
theorem bl_25 : BuildOk Try.prog 25 (.agg #[.slice none 0 0, .slice none 0 0]) #[(0, 1), (1, 1)] := ⟨by kernel_rfl, by kernel_rfl, fun w => by kernel_rfl⟩
theorem fa_25_0 (ad : Addr) (w : World) : (Instr.fieldAt 25 (.pointer (some ad)) 0).run Try.prog w = .ok (.pointer (some (ad.add 0))) w := by kernel_rfl
theorem fa_25_1 (ad : Addr) (w : World) : (Instr.fieldAt 25 (.pointer (some ad)) 1).run Try.prog w = .ok (.pointer (some (ad.add 1))) w := by kernel_rfl
theorem kT_25_ro {w : World} {F : Bs} {x : DFs} {cs : List Value} (h : kT_25.ro w F x cs) : ∃ v0 v1, cs = [v0, v1] ∧ kSl_55.ro w F x.inodes [v0] ∧ kSl_57.ro w F x.data [v1] := by
  obtain ⟨_, _, rfl, h0, h1⟩ := h
  obtain ⟨v0, rfl⟩ := sl_one h0
  obtain ⟨v1, rfl⟩ := sl_one h1
  exact ⟨v0, v1, rfl, h0, h1⟩
theorem kT_25_mk {w : World} {F : Bs} (x : DFs) {v0 : Value} {v1 : Value} (h0 : kSl_55.ro w F x.inodes [v0]) (h1 : kSl_57.ro w F x.data [v1]) : kT_25.ro w F x [v0, v1] :=
  ⟨_, _, rfl, h0, h1⟩
theorem kT_25_own {w : World} {S : Bs} {x : DFs} {cs : List Value} (h : kT_25.own w S x cs) : ∃ v0 v1, cs = [v0, v1] ∧ Star [ownA kSl_55 x.inodes [v0], ownA kSl_57 x.data [v1]] w S := by
  obtain ⟨_, _, rfl, a0⟩ := h
  obtain ⟨p0, q0, b0, c0, i0, j0, k0⟩ := star2 a0
  obtain ⟨v0, rfl⟩ := osl_one b0
  have g1 := Star.one (c := ownA kSl_55 x.inodes [v0]) b0
  obtain ⟨v1, rfl⟩ := osl_one c0
  have g2 := Star.one (c := ownA kSl_57 x.data [v1]) c0
  have g3 := g1.app g2 i0 j0 k0
  exact ⟨v0, v1, rfl, g3⟩
theorem kT_25_op {x : DFs} {cs : List Value} (w : World) (S : Bs) (h : Star [ownA kT_25 x cs] w S) : ∃ g : Value × Value, cs = [g.1, g.2] ∧ Star [ownA kSl_55 x.inodes [g.1], ownA kSl_57 x.data [g.2]] w S := by
  obtain ⟨v0, v1, h1, h2⟩ := kT_25_own (show kT_25.own w S x cs from h.head (c := ownA kT_25 x cs))
  exact ⟨(v0, v1), h1, h2⟩
theorem kT_25_omk {w : World} {S : Bs} (x : DFs) {v0 : Value} {v1 : Value} (h : Star [ownA kSl_55 x.inodes [v0], ownA kSl_57 x.data [v1]] w S) : kT_25.own w S x [v0, v1] := by
  have m1 : Mk kSl_55 x.inodes [v0] [ownA kSl_55 x.inodes [v0]] := mk_leaf
  have m2 : Mk kSl_57 x.data [v1] [ownA kSl_57 x.data [v1]] := mk_leaf
  have m3 : Mk (kpair kSl_55 kSl_57) (x.inodes, x.data) ([v0] ++ [v1]) ([ownA kSl_55 x.inodes [v0]] ++ [ownA kSl_57 x.data [v1]]) := mk_pair m1 m2
  have m0 : Mk kT_25 x ([v0] ++ [v1]) ([ownA kSl_55 x.inodes [v0]] ++ [ownA kSl_57 x.data [v1]]) := m3
  exact m0 w S h
def RA_25 (x : DFs) (r : Value) (l : List Asn) : Prop := ∃ v0 v1, r = .agg #[v0, v1] ∧ l = [ownA kSl_55 x.inodes [v0], ownA kSl_57 x.data [v1]]
theorem zero_25 (w : World) (S : Bs) : kT_25.own w S (⟨[], []⟩ : DFs) [.slice none 0 0, .slice none 0 0] := kT_25_omk (⟨[], []⟩ : DFs) (⟨fun _ => False, fun _ => False, own_nil _ _ none, ⟨fun _ => False, fun _ => False, own_nil _ _ none, trivial, fun _ h => h.elim, fun _ h => h.elim, fun _ h => h.elim⟩, fun _ h => h.elim, fun _ h => h.elim, fun _ h => h.elim⟩)
def PA_25 (g e s : Nat) (post : List Value) (x : DFs) (r : Value) (l : List Asn) : Prop := ∃ v0 v1, r = .tuple #[] ∧ l = [rowA g e s 1 (v0 :: v1 :: post), ownA kSl_55 x.inodes [v0], ownA kSl_57 x.data [v1]]
def kT_61 : Kd DEnt := kiso (kpair kstr (kint .i64)) (fun x => (x.name, x.ino))
theorem sz_61 : (Try.prog.info? 61).map (·.size) = some 2 := by kernel_rfl
theorem z_61 : (Try.prog.info? 61).map (·.zero) = some (some (.agg #[.string ⟨#[]⟩, .int .i64 0])) := by kernel_rfl
theorem ag_61 : AggIs Try.prog 61 true := by unfold AggIs; kernel_rfl
theorem bl_61 : BuildOk Try.prog 61 (.agg #[.string ⟨#[]⟩, .int .i64 0]) #[(0, 1), (1, 1)] := ⟨by kernel_rfl, by kernel_rfl, fun w => by kernel_rfl⟩
theorem fa_61_0 (ad : Addr) (w : World) : (Instr.fieldAt 61 (.pointer (some ad)) 0).run Try.prog w = .ok (.pointer (some (ad.add 0))) w := by kernel_rfl
theorem fa_61_1 (ad : Addr) (w : World) : (Instr.fieldAt 61 (.pointer (some ad)) 1).run Try.prog w = .ok (.pointer (some (ad.add 1))) w := by kernel_rfl
theorem ent_gd_61 : Try.prog.eqGuardType Try.prog.depth 61 = false := by kernel_rfl
theorem ent_eq_61 (x y : DEnt) (w : World) : (Op.equalIn 10000 61 (.agg #[.string x.name, .int .i64 x.ino]) (.agg #[.string y.name, .int .i64 y.ino])).run Try.prog w = .ok (decide (x = y)) w := by
  rw [run_equalIn_struct w 9999 61 _ _ (by kernel_rfl) (by kernel_rfl)]
  rw [show (Try.prog.fieldsOf 61).toList = [(Try.prog.fieldsOf 61)[0]!, (Try.prog.fieldsOf 61)[1]!] by kernel_rfl]
  refine ((eqFs_cons (a := .string x.name) (b := .string y.name) (by kernel_rfl) (fun w => by kernel_rfl) (fun w => by kernel_rfl) (fun w => run_equalIn_string w 9998 _ x.name y.name (by kernel_rfl)) (eqFs_cons (a := .int .i64 x.ino) (b := .int .i64 y.ino) (by kernel_rfl) (fun w => by kernel_rfl) (fun w => by kernel_rfl) (fun w => run_equalIn_int w 9998 _ .i64 .i64 x.ino y.ino (by kernel_rfl)) eqFs_nil)) w).trans ?_
  congr 1; cases x; cases y; simp only [beq_str, beq_int, Bool.and_true, DEnt.mk.injEq, Bool.decide_and]
theorem kT_61_ro {w : World} {F : Bs} {x : DEnt} {cs : List Value} (h : kT_61.ro w F x cs) : cs = [.string x.name, .int .i64 x.ino] ∧ x.name.size ≤ 140737488351232 := by
  obtain ⟨_, _, rfl, ⟨rfl, s0⟩, ⟨rfl, -⟩⟩ := h
  exact ⟨rfl, s0⟩
theorem kT_61_mk {w : World} {F : Bs} (x : DEnt) (s0 : x.name.size ≤ 140737488351232) : kT_61.ro w F x [.string x.name, .int .i64 x.ino] :=
  ⟨_, _, rfl, ⟨rfl, s0⟩, ⟨rfl, trivial⟩⟩
theorem kT_61_own {w : World} {S : Bs} {x : DEnt} {cs : List Value} (h : kT_61.own w S x cs) : cs = [.string x.name, .int .i64 x.ino] ∧ Star [] w S ∧ x.name.size ≤ 140737488351232 := by
  obtain ⟨_, _, rfl, a0⟩ := h
  obtain ⟨p0, q0, b0, c0, i0, j0, k0⟩ := star2 a0
  obtain ⟨rfl, s0⟩ := b0
  obtain ⟨rfl, -⟩ := c0
  exact ⟨rfl, trivial, s0⟩
theorem kT_61_op {x : DEnt} {cs : List Value} (w : World) (S : Bs) (h : Star [ownA kT_61 x cs] w S) : ∃ g : Unit, (cs = [.string x.name, .int .i64 x.ino] ∧ x.name.size ≤ 140737488351232) ∧ Star [] w S := by
  obtain ⟨h1, h2, s0⟩ := kT_61_own (show kT_61.own w S x cs from h.head (c := ownA kT_61 x cs))
  exact ⟨(), ⟨h1, s0⟩, h2⟩
theorem kT_61_omk {w : World} {S : Bs} (x : DEnt) (h : Star [] w S) (s0 : x.name.size ≤ 140737488351232) : kT_61.own w S x [.string x.name, .int .i64 x.ino] := by
  have m1 : Mk kstr x.name [.string x.name] [] := (mk_str s0)
  have m2 : Mk (kint .i64) x.ino [.int .i64 x.ino] [] := mk_int
  have m3 : Mk (kpair kstr (kint .i64)) (x.name, x.ino) ([.string x.name] ++ [.int .i64 x.ino]) ([] ++ []) := mk_pair m1 m2
  have m0 : Mk kT_61 x ([.string x.name] ++ [.int .i64 x.ino]) ([] ++ []) := m3
  exact m0 w S h
def RA_61 (x : DEnt) (r : Value) (l : List Asn) : Prop := r = .agg #[.string x.name, .int .i64 x.ino] ∧ l = [] ∧ x.name.size ≤ 140737488351232
theorem zero_61 (w : World) (S : Bs) : kT_61.own w S (⟨⟨#[]⟩, 0⟩ : DEnt) [.string ⟨#[]⟩, .int .i64 0] := kT_61_omk (⟨⟨#[]⟩, 0⟩ : DEnt) (trivial) (by decide)
def PA_61 (g e s : Nat) (post : List Value) (x : DEnt) (r : Value) (l : List Asn) : Prop := r = .tuple #[] ∧ l = [rowA g e s 1 ((.string x.name) :: (.int .i64 x.ino) :: post)] ∧ x.name.size ≤ 140737488351232
abbrev kSl_61 : Kd (List DEnt) := kslice 61 24 kT_61
theorem u_40 : Try.prog.underlying 40 = some (.slice 61) := by kernel_rfl
theorem ag_40 : AggIs Try.prog 40 false := by unfold AggIs; kernel_rfl
theorem z_40 : (Try.prog.info? 40).map (·.zero) = some (some (.slice none 0 0)) := by kernel_rfl
theorem sz_40 : (Try.prog.info? 40).map (·.size) = some 1 := by kernel_rfl
theorem inf_61 : (Try.prog.info? 61).map (fun i => (i.size, i.bytes, i.zero)) = some (kT_61.sz, 24, some (.agg #[.string ⟨#[]⟩, .int .i64 0])) := by kernel_rfl
def kT_42 : Kd DInode := kiso (kpair (kint .i64) (kpair (kint .i64) (kpair (kint .i64) (kpair kSl_2 kSl_61)))) (fun x => (x.kind, x.links, x.size, x.blocks, x.ents))
theorem sz_42 : (Try.prog.info? 42).map (·.size) = some 5 := by kernel_rfl
theorem z_42 : (Try.prog.info? 42).map (·.zero) = some (some (.agg #[.int .i64 0, .int .i64 0, .int .i64 0, .slice none 0 0, .slice none 0 0])) := by kernel_rfl
theorem ag_42 : AggIs Try.prog 42 true := by unfold AggIs; kernel_rfl
theorem bl_42 : BuildOk Try.prog 42 (.agg #[.int .i64 0, .int .i64 0, .int .i64 0, .slice none 0 0, .slice none 0 0]) #[(0, 1), (1, 1), (2, 1), (3, 1), (4, 1)] := ⟨by kernel_rfl, by kernel_rfl, fun w => by kernel_rfl⟩
theorem fa_42_0 (ad : Addr) (w : World) : (Instr.fieldAt 42 (.pointer (some ad)) 0).run Try.prog w = .ok (.pointer (some (ad.add 0))) w := by kernel_rfl
theorem fa_42_1 (ad : Addr) (w : World) : (Instr.fieldAt 42 (.pointer (some ad)) 1).run Try.prog w = .ok (.pointer (some (ad.add 1))) w := by kernel_rfl
theorem fa_42_2 (ad : Addr) (w : World) : (Instr.fieldAt 42 (.pointer (some ad)) 2).run Try.prog w = .ok (.pointer (some (ad.add 2))) w := by kernel_rfl
theorem fa_42_3 (ad : Addr) (w : World) : (Instr.fieldAt 42 (.pointer (some ad)) 3).run Try.prog w = .ok (.pointer (some (ad.add 3))) w := by kernel_rfl
theorem fa_42_4 (ad : Addr) (w : World) : (Instr.fieldAt 42 (.pointer (some ad)) 4).run Try.prog w = .ok (.pointer (some (ad.add 4))) w := by kernel_rfl
theorem kT_42_ro {w : World} {F : Bs} {x : DInode} {cs : List Value} (h : kT_42.ro w F x cs) : ∃ v3 v4, cs = [.int .i64 x.kind, .int .i64 x.links, .int .i64 x.size, v3, v4] ∧ kSl_2.ro w F x.blocks [v3] ∧ kSl_61.ro w F x.ents [v4] := by
  obtain ⟨_, _, rfl, ⟨rfl, -⟩, ⟨_, _, rfl, ⟨rfl, -⟩, ⟨_, _, rfl, ⟨rfl, -⟩, ⟨_, _, rfl, h3, h4⟩⟩⟩⟩ := h
  obtain ⟨v3, rfl⟩ := sl_one h3
  obtain ⟨v4, rfl⟩ := sl_one h4
  exact ⟨v3, v4, rfl, h3, h4⟩
theorem kT_42_mk {w : World} {F : Bs} (x : DInode) {v3 : Value} {v4 : Value} (h3 : kSl_2.ro w F x.blocks [v3]) (h4 : kSl_61.ro w F x.ents [v4]) : kT_42.ro w F x [.int .i64 x.kind, .int .i64 x.links, .int .i64 x.size, v3, v4] :=
  ⟨_, _, rfl, ⟨rfl, trivial⟩, ⟨_, _, rfl, ⟨rfl, trivial⟩, ⟨_, _, rfl, ⟨rfl, trivial⟩, ⟨_, _, rfl, h3, h4⟩⟩⟩⟩
theorem kT_42_own {w : World} {S : Bs} {x : DInode} {cs : List Value} (h : kT_42.own w S x cs) : ∃ v3 v4, cs = [.int .i64 x.kind, .int .i64 x.links, .int .i64 x.size, v3, v4] ∧ Star [ownA kSl_2 x.blocks [v3], ownA kSl_61 x.ents [v4]] w S := by
  obtain ⟨_, _, rfl, a0⟩ := h
  obtain ⟨p0, q0, b0, c0, i0, j0, k0⟩ := star2 a0
  obtain ⟨rfl, -⟩ := b0
  obtain ⟨_, _, rfl, a1⟩ := c0
  obtain ⟨p1, q1, b1, c1, i1, j1, k1⟩ := star2 a1
  obtain ⟨rfl, -⟩ := b1
  obtain ⟨_, _, rfl, a2⟩ := c1
  obtain ⟨p2, q2, b2, c2, i2, j2, k2⟩ := star2 a2
  obtain ⟨rfl, -⟩ := b2
  obtain ⟨_, _, rfl, a3⟩ := c2
  obtain ⟨p3, q3, b3, c3, i3, j3, k3⟩ := star2 a3
  obtain ⟨v3, rfl⟩ := osl_one b3
  have g4 := Star.one (c := ownA kSl_2 x.blocks [v3]) b3
  obtain ⟨v4, rfl⟩ := osl_one c3
  have g5 := Star.one (c := ownA kSl_61 x.ents [v4]) c3
  have g6 := g4.app g5 i3 j3 k3
  have g7 := g6.up j2
  have g8 := g7.up j1
  have g9 := g8.up j0
  exact ⟨v3, v4, rfl, g9⟩
theorem kT_42_op {x : DInode} {cs : List Value} (w : World) (S : Bs) (h : Star [ownA kT_42 x cs] w S) : ∃ g : Value × Value, cs = [.int .i64 x.kind, .int .i64 x.links, .int .i64 x.size, g.1, g.2] ∧ Star [ownA kSl_2 x.blocks [g.1], ownA kSl_61 x.ents [g.2]] w S := by
  obtain ⟨v3, v4, h1, h2⟩ := kT_42_own (show kT_42.own w S x cs from h.head (c := ownA kT_42 x cs))
  exact ⟨(v3, v4), h1, h2⟩
theorem kT_42_omk {w : World} {S : Bs} (x : DInode) {v3 : Value} {v4 : Value} (h : Star [ownA kSl_2 x.blocks [v3], ownA kSl_61 x.ents [v4]] w S) : kT_42.own w S x [.int .i64 x.kind, .int .i64 x.links, .int .i64 x.size, v3, v4] := by
  have m1 : Mk (kint .i64) x.kind [.int .i64 x.kind] [] := mk_int
  have m2 : Mk (kint .i64) x.links [.int .i64 x.links] [] := mk_int
  have m3 : Mk (kint .i64) x.size [.int .i64 x.size] [] := mk_int
  have m4 : Mk kSl_2 x.blocks [v3] [ownA kSl_2 x.blocks [v3]] := mk_leaf
  have m5 : Mk kSl_61 x.ents [v4] [ownA kSl_61 x.ents [v4]] := mk_leaf
  have m6 : Mk (kpair kSl_2 kSl_61) (x.blocks, x.ents) ([v3] ++ [v4]) ([ownA kSl_2 x.blocks [v3]] ++ [ownA kSl_61 x.ents [v4]]) := mk_pair m4 m5
  have m7 : Mk (kpair (kint .i64) (kpair kSl_2 kSl_61)) (x.size, (x.blocks, x.ents)) ([.int .i64 x.size] ++ ([v3] ++ [v4])) ([] ++ ([ownA kSl_2 x.blocks [v3]] ++ [ownA kSl_61 x.ents [v4]])) := mk_pair m3 m6
  have m8 : Mk (kpair (kint .i64) (kpair (kint .i64) (kpair kSl_2 kSl_61))) (x.links, (x.size, (x.blocks, x.ents))) ([.int .i64 x.links] ++ ([.int .i64 x.size] ++ ([v3] ++ [v4]))) ([] ++ ([] ++ ([ownA kSl_2 x.blocks [v3]] ++ [ownA kSl_61 x.ents [v4]]))) := mk_pair m2 m7
  have m9 : Mk (kpair (kint .i64) (kpair (kint .i64) (kpair (kint .i64) (kpair kSl_2 kSl_61)))) (x.kind, (x.links, (x.size, (x.blocks, x.ents)))) ([.int .i64 x.kind] ++ ([.int .i64 x.links] ++ ([.int .i64 x.size] ++ ([v3] ++ [v4])))) ([] ++ ([] ++ ([] ++ ([ownA kSl_2 x.blocks [v3]] ++ [ownA kSl_61 x.ents [v4]])))) := mk_pair m1 m8
  have m0 : Mk kT_42 x ([.int .i64 x.kind] ++ ([.int .i64 x.links] ++ ([.int .i64 x.size] ++ ([v3] ++ [v4])))) ([] ++ ([] ++ ([] ++ ([ownA kSl_2 x.blocks [v3]] ++ [ownA kSl_61 x.ents [v4]])))) := m9
  exact m0 w S h
def RA_42 (x : DInode) (r : Value) (l : List Asn) : Prop := ∃ v3 v4, r = .agg #[.int .i64 x.kind, .int .i64 x.links, .int .i64 x.size, v3, v4] ∧ l = [ownA kSl_2 x.blocks [v3], ownA kSl_61 x.ents [v4]]
theorem zero_42 (w : World) (S : Bs) : kT_42.own w S (⟨0, 0, 0, [], []⟩ : DInode) [.int .i64 0, .int .i64 0, .int .i64 0, .slice none 0 0, .slice none 0 0] := kT_42_omk (⟨0, 0, 0, [], []⟩ : DInode) (⟨fun _ => False, fun _ => False, own_nil _ _ none, ⟨fun _ => False, fun _ => False, own_nil _ _ none, trivial, fun _ h => h.elim, fun _ h => h.elim, fun _ h => h.elim⟩, fun _ h => h.elim, fun _ h => h.elim, fun _ h => h.elim⟩)
def PA_42 (g e s : Nat) (post : List Value) (x : DInode) (r : Value) (l : List Asn) : Prop := ∃ v3 v4, r = .tuple #[] ∧ l = [rowA g e s 1 ((.int .i64 x.kind) :: (.int .i64 x.links) :: (.int .i64 x.size) :: v3 :: v4 :: post), ownA kSl_2 x.blocks [v3], ownA kSl_61 x.ents [v4]]
abbrev kSl_42 : Kd (List DInode) := kslice 42 72 kT_42
theorem u_28 : Try.prog.underlying 28 = some (.slice 42) := by kernel_rfl
theorem ag_28 : AggIs Try.prog 28 false := by unfold AggIs; kernel_rfl
theorem z_28 : (Try.prog.info? 28).map (·.zero) = some (some (.slice none 0 0)) := by kernel_rfl
theorem sz_28 : (Try.prog.info? 28).map (·.size) = some 1 := by kernel_rfl
theorem inf_42 : (Try.prog.info? 42).map (fun i => (i.size, i.bytes, i.zero)) = some (kT_42.sz, 72, some (.agg #[.int .i64 0, .int .i64 0, .int .i64 0, .slice none 0 0, .slice none 0 0])) := by kernel_rfl
def kT_30 : Kd DFs := kiso (kpair kSl_42 kSl_57) (fun x => (x.inodes, x.data))
theorem sz_30 : (Try.prog.info? 30).map (·.size) = some 2 := by kernel_rfl
theorem z_30 : (Try.prog.info? 30).map (·.zero) = some (some (.agg #[.slice none 0 0, .slice none 0 0])) := by kernel_rfl
theorem ag_30 : AggIs Try.prog 30 true := by unfold AggIs; kernel_rfl
theorem bl_30 : BuildOk Try.prog 30 (.agg #[.slice none 0 0, .slice none 0 0]) #[(0, 1), (1, 1)] := ⟨by kernel_rfl, by kernel_rfl, fun w => by kernel_rfl⟩
theorem fa_30_0 (ad : Addr) (w : World) : (Instr.fieldAt 30 (.pointer (some ad)) 0).run Try.prog w = .ok (.pointer (some (ad.add 0))) w := by kernel_rfl
theorem fa_30_1 (ad : Addr) (w : World) : (Instr.fieldAt 30 (.pointer (some ad)) 1).run Try.prog w = .ok (.pointer (some (ad.add 1))) w := by kernel_rfl
theorem kT_30_ro {w : World} {F : Bs} {x : DFs} {cs : List Value} (h : kT_30.ro w F x cs) : ∃ v0 v1, cs = [v0, v1] ∧ kSl_42.ro w F x.inodes [v0] ∧ kSl_57.ro w F x.data [v1] := by
  obtain ⟨_, _, rfl, h0, h1⟩ := h
  obtain ⟨v0, rfl⟩ := sl_one h0
  obtain ⟨v1, rfl⟩ := sl_one h1
  exact ⟨v0, v1, rfl, h0, h1⟩
theorem kT_30_mk {w : World} {F : Bs} (x : DFs) {v0 : Value} {v1 : Value} (h0 : kSl_42.ro w F x.inodes [v0]) (h1 : kSl_57.ro w F x.data [v1]) : kT_30.ro w F x [v0, v1] :=
  ⟨_, _, rfl, h0, h1⟩
theorem kT_30_own {w : World} {S : Bs} {x : DFs} {cs : List Value} (h : kT_30.own w S x cs) : ∃ v0 v1, cs = [v0, v1] ∧ Star [ownA kSl_42 x.inodes [v0], ownA kSl_57 x.data [v1]] w S := by
  obtain ⟨_, _, rfl, a0⟩ := h
  obtain ⟨p0, q0, b0, c0, i0, j0, k0⟩ := star2 a0
  obtain ⟨v0, rfl⟩ := osl_one b0
  have g1 := Star.one (c := ownA kSl_42 x.inodes [v0]) b0
  obtain ⟨v1, rfl⟩ := osl_one c0
  have g2 := Star.one (c := ownA kSl_57 x.data [v1]) c0
  have g3 := g1.app g2 i0 j0 k0
  exact ⟨v0, v1, rfl, g3⟩
theorem kT_30_op {x : DFs} {cs : List Value} (w : World) (S : Bs) (h : Star [ownA kT_30 x cs] w S) : ∃ g : Value × Value, cs = [g.1, g.2] ∧ Star [ownA kSl_42 x.inodes [g.1], ownA kSl_57 x.data [g.2]] w S := by
  obtain ⟨v0, v1, h1, h2⟩ := kT_30_own (show kT_30.own w S x cs from h.head (c := ownA kT_30 x cs))
  exact ⟨(v0, v1), h1, h2⟩
theorem kT_30_omk {w : World} {S : Bs} (x : DFs) {v0 : Value} {v1 : Value} (h : Star [ownA kSl_42 x.inodes [v0], ownA kSl_57 x.data [v1]] w S) : kT_30.own w S x [v0, v1] := by
  have m1 : Mk kSl_42 x.inodes [v0] [ownA kSl_42 x.inodes [v0]] := mk_leaf
  have m2 : Mk kSl_57 x.data [v1] [ownA kSl_57 x.data [v1]] := mk_leaf
  have m3 : Mk (kpair kSl_42 kSl_57) (x.inodes, x.data) ([v0] ++ [v1]) ([ownA kSl_42 x.inodes [v0]] ++ [ownA kSl_57 x.data [v1]]) := mk_pair m1 m2
  have m0 : Mk kT_30 x ([v0] ++ [v1]) ([ownA kSl_42 x.inodes [v0]] ++ [ownA kSl_57 x.data [v1]]) := m3
  exact m0 w S h
def RA_30 (x : DFs) (r : Value) (l : List Asn) : Prop := ∃ v0 v1, r = .agg #[v0, v1] ∧ l = [ownA kSl_42 x.inodes [v0], ownA kSl_57 x.data [v1]]
theorem zero_30 (w : World) (S : Bs) : kT_30.own w S (⟨[], []⟩ : DFs) [.slice none 0 0, .slice none 0 0] := kT_30_omk (⟨[], []⟩ : DFs) (⟨fun _ => False, fun _ => False, own_nil _ _ none, ⟨fun _ => False, fun _ => False, own_nil _ _ none, trivial, fun _ h => h.elim, fun _ h => h.elim, fun _ h => h.elim⟩, fun _ h => h.elim, fun _ h => h.elim, fun _ h => h.elim⟩)
def PA_30 (g e s : Nat) (post : List Value) (x : DFs) (r : Value) (l : List Asn) : Prop := ∃ v0 v1, r = .tuple #[] ∧ l = [rowA g e s 1 (v0 :: v1 :: post), ownA kSl_42 x.inodes [v0], ownA kSl_57 x.data [v1]]
abbrev kSl_4 : Kd (List Bool) := kslice 4 1 kbool
theorem u_66 : Try.prog.underlying 66 = some (.slice 4) := by kernel_rfl
theorem ag_66 : AggIs Try.prog 66 false := by unfold AggIs; kernel_rfl
theorem z_66 : (Try.prog.info? 66).map (·.zero) = some (some (.slice none 0 0)) := by kernel_rfl
theorem sz_66 : (Try.prog.info? 66).map (·.size) = some 1 := by kernel_rfl
theorem inf_4 : (Try.prog.info? 4).map (fun i => (i.size, i.bytes, i.zero)) = some (kbool.sz, 1, some (.bool false)) := by kernel_rfl
theorem u_96 : Try.prog.underlying 96 = some (.int .u64) := by kernel_rfl
theorem sz_96 : (Try.prog.info? 96).map (·.size) = some 1 := by kernel_rfl
theorem z_96 : (Try.prog.info? 96).map (·.zero) = some (some (.int .u64 0)) := by kernel_rfl
theorem ag_96 : AggIs Try.prog 96 false := by unfold AggIs; kernel_rfl
theorem u_100 : Try.prog.underlying 100 = some (.int .i64) := by kernel_rfl
theorem sz_100 : (Try.prog.info? 100).map (·.size) = some 1 := by kernel_rfl
theorem z_100 : (Try.prog.info? 100).map (·.zero) = some (some (.int .i64 0)) := by kernel_rfl
theorem ag_100 : AggIs Try.prog 100 false := by unfold AggIs; kernel_rfl
theorem u_109 : Try.prog.underlying 109 = some (.int .u32) := by kernel_rfl
theorem sz_109 : (Try.prog.info? 109).map (·.size) = some 1 := by kernel_rfl
theorem z_109 : (Try.prog.info? 109).map (·.zero) = some (some (.int .u32 0)) := by kernel_rfl
theorem ag_109 : AggIs Try.prog 109 false := by unfold AggIs; kernel_rfl
theorem u_111 : Try.prog.underlying 111 = some (.int .u64) := by kernel_rfl
theorem sz_111 : (Try.prog.info? 111).map (·.size) = some 1 := by kernel_rfl
theorem z_111 : (Try.prog.info? 111).map (·.zero) = some (some (.int .u64 0)) := by kernel_rfl
theorem ag_111 : AggIs Try.prog 111 false := by unfold AggIs; kernel_rfl
theorem u_114 : Try.prog.underlying 114 = some (.int .u64) := by kernel_rfl
theorem sz_114 : (Try.prog.info? 114).map (·.size) = some 1 := by kernel_rfl
theorem z_114 : (Try.prog.info? 114).map (·.zero) = some (some (.int .u64 0)) := by kernel_rfl
theorem ag_114 : AggIs Try.prog 114 false := by unfold AggIs; kernel_rfl
end Go.Proofs.Yticaddophhggoaa

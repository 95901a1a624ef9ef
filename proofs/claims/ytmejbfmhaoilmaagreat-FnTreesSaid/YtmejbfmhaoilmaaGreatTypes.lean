/- What is proved: the kinds of this program's types, laid open and put together; facts on its types. No condition. -/
import Derived.Test.YtmejbfmhaoilmaaGreatProg
import Derived.Test.YtmejbfmhaoilmaaGreatBase0
import Derived.Test.YtmejbfmhaoilmaaGreatBase1
namespace Go.Proofs.YtmejbfmhaoilmaaGreat
open Go Go.RowKit
set_option maxRecDepth 100000
set_option linter.unusedVariables false
set_option linter.unusedSimpArgs false
theorem u_2 : Tryz.prog.underlying 2 = some (.int .i64) := by kernel_rfl
theorem sz_2 : (Tryz.prog.info? 2).map (·.size) = some 1 := by kernel_rfl
theorem ag_2 : AggIs Tryz.prog 2 false := by unfold AggIs; kernel_rfl
theorem u_4 : Tryz.prog.underlying 4 = some .bool := by kernel_rfl
theorem sz_4 : (Tryz.prog.info? 4).map (·.size) = some 1 := by kernel_rfl
theorem ag_4 : AggIs Tryz.prog 4 false := by unfold AggIs; kernel_rfl
theorem u_5 : Tryz.prog.underlying 5 = some (.int .u8) := by kernel_rfl
theorem sz_5 : (Tryz.prog.info? 5).map (·.size) = some 1 := by kernel_rfl
theorem ag_5 : AggIs Tryz.prog 5 false := by unfold AggIs; kernel_rfl
theorem u_9 : Tryz.prog.underlying 9 = some .string := by kernel_rfl
theorem sz_9 : (Tryz.prog.info? 9).map (·.size) = some 1 := by kernel_rfl
theorem ag_9 : AggIs Tryz.prog 9 false := by unfold AggIs; kernel_rfl
abbrev kSl_5 : Kd (List UInt8) := kslice 5 1 kbyte
theorem u_22 : Tryz.prog.underlying 22 = some (.slice 5) := by kernel_rfl
theorem ag_22 : AggIs Tryz.prog 22 false := by unfold AggIs; kernel_rfl
theorem sz_22 : (Tryz.prog.info? 22).map (·.size) = some 1 := by kernel_rfl
theorem inf_5 : (Tryz.prog.info? 5).map (fun i => (i.size, i.bytes, i.zero)) = some (kbyte.sz, 1, some (.int .u8 0)) := by kernel_rfl
abbrev kSl_2 : Kd (List Int) := kslice 2 8 (kint .i64)
theorem u_36 : Tryz.prog.underlying 36 = some (.slice 2) := by kernel_rfl
theorem ag_36 : AggIs Tryz.prog 36 false := by unfold AggIs; kernel_rfl
theorem sz_36 : (Tryz.prog.info? 36).map (·.size) = some 1 := by kernel_rfl
theorem inf_2 : (Tryz.prog.info? 2).map (fun i => (i.size, i.bytes, i.zero)) = some ((kint .i64).sz, 8, some (.int .i64 0)) := by kernel_rfl
def kT_46 : Kd DEnt := kiso (kpair kstr (kint .i64)) (fun x => (x.name, x.ino))
theorem sz_46 : (Tryz.prog.info? 46).map (·.size) = some 2 := by kernel_rfl
theorem z_46 : (Tryz.prog.info? 46).map (·.zero) = some (some (.agg #[.string ⟨#[]⟩, .int .i64 0])) := by kernel_rfl
theorem ag_46 : AggIs Tryz.prog 46 true := by unfold AggIs; kernel_rfl
theorem bl_46 : BuildOk Tryz.prog 46 (.agg #[.string ⟨#[]⟩, .int .i64 0]) #[(0, 1), (1, 1)] := ⟨by kernel_rfl, by kernel_rfl, fun w => by kernel_rfl⟩
theorem fa_46_0 (ad : Addr) (w : World) : (Instr.fieldAt 46 (.pointer (some ad)) 0).run Tryz.prog w = .ok (.pointer (some (ad.add 0))) w := by kernel_rfl
theorem fa_46_1 (ad : Addr) (w : World) : (Instr.fieldAt 46 (.pointer (some ad)) 1).run Tryz.prog w = .ok (.pointer (some (ad.add 1))) w := by kernel_rfl
theorem ent_gd_46 : Tryz.prog.eqGuardType Tryz.prog.depth 46 = false := by kernel_rfl
theorem ent_eq_46 (x y : DEnt) (w : World) : (Op.equalIn 10000 46 (.agg #[.string x.name, .int .i64 x.ino]) (.agg #[.string y.name, .int .i64 y.ino])).run Tryz.prog w = .ok (decide (x = y)) w := by
  rw [run_equalIn_struct w 9999 46 _ _ (by kernel_rfl) (by kernel_rfl)]
  rw [show (Tryz.prog.fieldsOf 46).toList = [(Tryz.prog.fieldsOf 46)[0]!, (Tryz.prog.fieldsOf 46)[1]!] by kernel_rfl]
  refine ((eqFs_cons (a := .string x.name) (b := .string y.name) (by kernel_rfl) (fun w => by kernel_rfl) (fun w => by kernel_rfl) (fun w => run_equalIn_string w 9998 _ x.name y.name (by kernel_rfl)) (eqFs_cons (a := .int .i64 x.ino) (b := .int .i64 y.ino) (by kernel_rfl) (fun w => by kernel_rfl) (fun w => by kernel_rfl) (fun w => run_equalIn_int w 9998 _ .i64 .i64 x.ino y.ino (by kernel_rfl)) eqFs_nil)) w).trans ?_
  congr 1; cases x; cases y; simp only [beq_str, beq_int, Bool.and_true, DEnt.mk.injEq, Bool.decide_and]
theorem kT_46_ro {w : World} {F : Bs} {x : DEnt} {cs : List Value} (h : kT_46.ro w F x cs) : cs = [.string x.name, .int .i64 x.ino] ∧ x.name.size ≤ 140737488351232 := by
  obtain ⟨_, _, rfl, ⟨rfl, s0⟩, ⟨rfl, -⟩⟩ := h
  exact ⟨rfl, s0⟩
theorem kT_46_mk {w : World} {F : Bs} (x : DEnt) (s0 : x.name.size ≤ 140737488351232) : kT_46.ro w F x [.string x.name, .int .i64 x.ino] :=
  ⟨_, _, rfl, ⟨rfl, s0⟩, ⟨rfl, trivial⟩⟩
theorem kT_46_own {w : World} {S : Bs} {x : DEnt} {cs : List Value} (h : kT_46.own w S x cs) : cs = [.string x.name, .int .i64 x.ino] ∧ Star [] w S ∧ x.name.size ≤ 140737488351232 := by
  obtain ⟨_, _, rfl, a0⟩ := h
  obtain ⟨p0, q0, b0, c0, i0, j0, k0⟩ := star2 a0
  obtain ⟨rfl, s0⟩ := b0
  obtain ⟨rfl, -⟩ := c0
  exact ⟨rfl, trivial, s0⟩
theorem kT_46_op {x : DEnt} {cs : List Value} (w : World) (S : Bs) (h : Star [ownA kT_46 x cs] w S) : ∃ g : Unit, (cs = [.string x.name, .int .i64 x.ino] ∧ x.name.size ≤ 140737488351232) ∧ Star [] w S := by
  obtain ⟨h1, h2, s0⟩ := kT_46_own (show kT_46.own w S x cs from h.head (c := ownA kT_46 x cs))
  exact ⟨(), ⟨h1, s0⟩, h2⟩
theorem kT_46_omk {w : World} {S : Bs} (x : DEnt) (h : Star [] w S) (s0 : x.name.size ≤ 140737488351232) : kT_46.own w S x [.string x.name, .int .i64 x.ino] := by
  have m1 : Mk kstr x.name [.string x.name] [] := (mk_str s0)
  have m2 : Mk (kint .i64) x.ino [.int .i64 x.ino] [] := mk_int
  have m3 : Mk (kpair kstr (kint .i64)) (x.name, x.ino) ([.string x.name] ++ [.int .i64 x.ino]) ([] ++ []) := mk_pair m1 m2
  have m0 : Mk kT_46 x ([.string x.name] ++ [.int .i64 x.ino]) ([] ++ []) := m3
  exact m0 w S h
abbrev kSl_46 : Kd (List DEnt) := kslice 46 24 kT_46
theorem u_42 : Tryz.prog.underlying 42 = some (.slice 46) := by kernel_rfl
theorem ag_42 : AggIs Tryz.prog 42 false := by unfold AggIs; kernel_rfl
theorem sz_42 : (Tryz.prog.info? 42).map (·.size) = some 1 := by kernel_rfl
theorem inf_46 : (Tryz.prog.info? 46).map (fun i => (i.size, i.bytes, i.zero)) = some (kT_46.sz, 24, some (.agg #[.string ⟨#[]⟩, .int .i64 0])) := by kernel_rfl
def kT_44 : Kd DInode := kiso (kpair (kint .i64) (kpair (kint .i64) (kpair (kint .i64) (kpair kSl_2 kSl_46)))) (fun x => (x.kind, x.links, x.size, x.blocks, x.ents))
theorem sz_44 : (Tryz.prog.info? 44).map (·.size) = some 5 := by kernel_rfl
theorem z_44 : (Tryz.prog.info? 44).map (·.zero) = some (some (.agg #[.int .i64 0, .int .i64 0, .int .i64 0, .slice none 0 0, .slice none 0 0])) := by kernel_rfl
theorem ag_44 : AggIs Tryz.prog 44 true := by unfold AggIs; kernel_rfl
theorem bl_44 : BuildOk Tryz.prog 44 (.agg #[.int .i64 0, .int .i64 0, .int .i64 0, .slice none 0 0, .slice none 0 0]) #[(0, 1), (1, 1), (2, 1), (3, 1), (4, 1)] := ⟨by kernel_rfl, by kernel_rfl, fun w => by kernel_rfl⟩
theorem fa_44_0 (ad : Addr) (w : World) : (Instr.fieldAt 44 (.pointer (some ad)) 0).run Tryz.prog w = .ok (.pointer (some (ad.add 0))) w := by kernel_rfl
theorem fa_44_1 (ad : Addr) (w : World) : (Instr.fieldAt 44 (.pointer (some ad)) 1).run Tryz.prog w = .ok (.pointer (some (ad.add 1))) w := by kernel_rfl
theorem fa_44_2 (ad : Addr) (w : World) : (Instr.fieldAt 44 (.pointer (some ad)) 2).run Tryz.prog w = .ok (.pointer (some (ad.add 2))) w := by kernel_rfl
theorem fa_44_3 (ad : Addr) (w : World) : (Instr.fieldAt 44 (.pointer (some ad)) 3).run Tryz.prog w = .ok (.pointer (some (ad.add 3))) w := by kernel_rfl
theorem fa_44_4 (ad : Addr) (w : World) : (Instr.fieldAt 44 (.pointer (some ad)) 4).run Tryz.prog w = .ok (.pointer (some (ad.add 4))) w := by kernel_rfl
theorem kT_44_ro {w : World} {F : Bs} {x : DInode} {cs : List Value} (h : kT_44.ro w F x cs) : ∃ v3 v4, cs = [.int .i64 x.kind, .int .i64 x.links, .int .i64 x.size, v3, v4] ∧ kSl_2.ro w F x.blocks [v3] ∧ kSl_46.ro w F x.ents [v4] := by
  obtain ⟨_, _, rfl, ⟨rfl, -⟩, ⟨_, _, rfl, ⟨rfl, -⟩, ⟨_, _, rfl, ⟨rfl, -⟩, ⟨_, _, rfl, h3, h4⟩⟩⟩⟩ := h
  obtain ⟨v3, rfl⟩ := sl_one h3
  obtain ⟨v4, rfl⟩ := sl_one h4
  exact ⟨v3, v4, rfl, h3, h4⟩
theorem kT_44_mk {w : World} {F : Bs} (x : DInode) {v3 : Value} {v4 : Value} (h3 : kSl_2.ro w F x.blocks [v3]) (h4 : kSl_46.ro w F x.ents [v4]) : kT_44.ro w F x [.int .i64 x.kind, .int .i64 x.links, .int .i64 x.size, v3, v4] :=
  ⟨_, _, rfl, ⟨rfl, trivial⟩, ⟨_, _, rfl, ⟨rfl, trivial⟩, ⟨_, _, rfl, ⟨rfl, trivial⟩, ⟨_, _, rfl, h3, h4⟩⟩⟩⟩
theorem kT_44_own {w : World} {S : Bs} {x : DInode} {cs : List Value} (h : kT_44.own w S x cs) : ∃ v3 v4, cs = [.int .i64 x.kind, .int .i64 x.links, .int .i64 x.size, v3, v4] ∧ Star [ownA kSl_2 x.blocks [v3], ownA kSl_46 x.ents [v4]] w S := by
  obtain ⟨_, _, rfl, a0⟩ := h
  obtain ⟨p0, q0, b0, c0, i0, j0, k0⟩ := star2 a0
  obtain ⟨rfl, -⟩ := b0
  obtain ⟨_, _, rfl, a1⟩ := c0
  obtain ⟨p1, q1, b1, c1, i1, j1, k1⟩ := star2 a1
  obtain ⟨rfl, -⟩ := b1
  obtain ⟨_, _, rfl, a2⟩ := c1
  obtain ⟨p2, q2, b2, c2, i2, j2, k2⟩ := star2 a2
  obtain ⟨rfl, -⟩ := b2
  obtain ⟨_, _, rfl, a3⟩ := c2
  obtain ⟨p3, q3, b3, c3, i3, j3, k3⟩ := star2 a3
  obtain ⟨v3, rfl⟩ := osl_one b3
  have g4 := Star.one (c := ownA kSl_2 x.blocks [v3]) b3
  obtain ⟨v4, rfl⟩ := osl_one c3
  have g5 := Star.one (c := ownA kSl_46 x.ents [v4]) c3
  have g6 := g4.app g5 i3 j3 k3
  have g7 := g6.up j2
  have g8 := g7.up j1
  have g9 := g8.up j0
  exact ⟨v3, v4, rfl, g9⟩
theorem kT_44_op {x : DInode} {cs : List Value} (w : World) (S : Bs) (h : Star [ownA kT_44 x cs] w S) : ∃ g : Value × Value, cs = [.int .i64 x.kind, .int .i64 x.links, .int .i64 x.size, g.1, g.2] ∧ Star [ownA kSl_2 x.blocks [g.1], ownA kSl_46 x.ents [g.2]] w S := by
  obtain ⟨v3, v4, h1, h2⟩ := kT_44_own (show kT_44.own w S x cs from h.head (c := ownA kT_44 x cs))
  exact ⟨(v3, v4), h1, h2⟩
theorem kT_44_omk {w : World} {S : Bs} (x : DInode) {v3 : Value} {v4 : Value} (h : Star [ownA kSl_2 x.blocks [v3], ownA kSl_46 x.ents [v4]] w S) : kT_44.own w S x [.int .i64 x.kind, .int .i64 x.links, .int .i64 x.size, v3, v4] := by
  have m1 : Mk (kint .i64) x.kind [.int .i64 x.kind] [] := mk_int
  have m2 : Mk (kint .i64) x.links [.int .i64 x.links] [] := mk_int
  have m3 : Mk (kint .i64) x.size [.int .i64 x.size] [] := mk_int
  have m4 : Mk kSl_2 x.blocks [v3] [ownA kSl_2 x.blocks [v3]] := mk_leaf
  have m5 : Mk kSl_46 x.ents [v4] [ownA kSl_46 x.ents [v4]] := mk_leaf
  have m6 : Mk (kpair kSl_2 kSl_46) (x.blocks, x.ents) ([v3] ++ [v4]) ([ownA kSl_2 x.blocks [v3]] ++ [ownA kSl_46 x.ents [v4]]) := mk_pair m4 m5
  have m7 : Mk (kpair (kint .i64) (kpair kSl_2 kSl_46)) (x.size, (x.blocks, x.ents)) ([.int .i64 x.size] ++ ([v3] ++ [v4])) ([] ++ ([ownA kSl_2 x.blocks [v3]] ++ [ownA kSl_46 x.ents [v4]])) := mk_pair m3 m6
  have m8 : Mk (kpair (kint .i64) (kpair (kint .i64) (kpair kSl_2 kSl_46))) (x.links, (x.size, (x.blocks, x.ents))) ([.int .i64 x.links] ++ ([.int .i64 x.size] ++ ([v3] ++ [v4]))) ([] ++ ([] ++ ([ownA kSl_2 x.blocks [v3]] ++ [ownA kSl_46 x.ents [v4]]))) := mk_pair m2 m7
  have m9 : Mk (kpair (kint .i64) (kpair (kint .i64) (kpair (kint .i64) (kpair kSl_2 kSl_46)))) (x.kind, (x.links, (x.size, (x.blocks, x.ents)))) ([.int .i64 x.kind] ++ ([.int .i64 x.links] ++ ([.int .i64 x.size] ++ ([v3] ++ [v4])))) ([] ++ ([] ++ ([] ++ ([ownA kSl_2 x.blocks [v3]] ++ [ownA kSl_46 x.ents [v4]])))) := mk_pair m1 m8
  have m0 : Mk kT_44 x ([.int .i64 x.kind] ++ ([.int .i64 x.links] ++ ([.int .i64 x.size] ++ ([v3] ++ [v4])))) ([] ++ ([] ++ ([] ++ ([ownA kSl_2 x.blocks [v3]] ++ [ownA kSl_46 x.ents [v4]])))) := m9
  exact m0 w S h
def RA_44 (x : DInode) (r : Value) (l : List Asn) : Prop := ∃ v3 v4, r = .agg #[.int .i64 x.kind, .int .i64 x.links, .int .i64 x.size, v3, v4] ∧ l = [ownA kSl_2 x.blocks [v3], ownA kSl_46 x.ents [v4]]
theorem zero_44 (w : World) (S : Bs) : kT_44.own w S (⟨0, 0, 0, [], []⟩ : DInode) [.int .i64 0, .int .i64 0, .int .i64 0, .slice none 0 0, .slice none 0 0] := kT_44_omk (⟨0, 0, 0, [], []⟩ : DInode) (⟨fun _ => False, fun _ => False, own_nil _ _ none, ⟨fun _ => False, fun _ => False, own_nil _ _ none, trivial, fun _ h => h.elim, fun _ h => h.elim, fun _ h => h.elim⟩, fun _ h => h.elim, fun _ h => h.elim, fun _ h => h.elim⟩)
abbrev kSl_44 : Kd (List DInode) := kslice 44 72 kT_44
theorem u_24 : Tryz.prog.underlying 24 = some (.slice 44) := by kernel_rfl
theorem ag_24 : AggIs Tryz.prog 24 false := by unfold AggIs; kernel_rfl
theorem sz_24 : (Tryz.prog.info? 24).map (·.size) = some 1 := by kernel_rfl
theorem inf_44 : (Tryz.prog.info? 44).map (fun i => (i.size, i.bytes, i.zero)) = some (kT_44.sz, 72, some (.agg #[.int .i64 0, .int .i64 0, .int .i64 0, .slice none 0 0, .slice none 0 0])) := by kernel_rfl
abbrev kSl_22 : Kd (List (List UInt8)) := kslice 22 24 kSl_5
theorem u_25 : Tryz.prog.underlying 25 = some (.slice 22) := by kernel_rfl
theorem ag_25 : AggIs Tryz.prog 25 false := by unfold AggIs; kernel_rfl
theorem sz_25 : (Tryz.prog.info? 25).map (·.size) = some 1 := by kernel_rfl
theorem inf_22 : (Tryz.prog.info? 22).map (fun i => (i.size, i.bytes, i.zero)) = some (kSl_5.sz, 24, some (.slice none 0 0)) := by kernel_rfl
def kT_27 : Kd DFs := kiso (kpair kSl_44 kSl_22) (fun x => (x.inodes, x.data))
theorem sz_27 : (Tryz.prog.info? 27).map (·.size) = some 2 := by kernel_rfl
theorem z_27 : (Tryz.prog.info? 27).map (·.zero) = some (some (.agg #[.slice none 0 0, .slice none 0 0])) := by kernel_rfl
theorem ag_27 : AggIs Tryz.prog 27 true := by unfold AggIs; kernel_rfl
theorem bl_27 : BuildOk Tryz.prog 27 (.agg #[.slice none 0 0, .slice none 0 0]) #[(0, 1), (1, 1)] := ⟨by kernel_rfl, by kernel_rfl, fun w => by kernel_rfl⟩
theorem fa_27_0 (ad : Addr) (w : World) : (Instr.fieldAt 27 (.pointer (some ad)) 0).run Tryz.prog w = .ok (.pointer (some (ad.add 0))) w := by kernel_rfl
theorem fa_27_1 (ad : Addr) (w : World) : (Instr.fieldAt 27 (.pointer (some ad)) 1).run Tryz.prog w = .ok (.pointer (some (ad.add 1))) w := by kernel_rfl
theorem kT_27_ro {w : World} {F : Bs} {x : DFs} {cs : List Value} (h : kT_27.ro w F x cs) : ∃ v0 v1, cs = [v0, v1] ∧ kSl_44.ro w F x.inodes [v0] ∧ kSl_22.ro w F x.data [v1] := by
  obtain ⟨_, _, rfl, h0, h1⟩ := h
  obtain ⟨v0, rfl⟩ := sl_one h0
  obtain ⟨v1, rfl⟩ := sl_one h1
  exact ⟨v0, v1, rfl, h0, h1⟩
theorem kT_27_mk {w : World} {F : Bs} (x : DFs) {v0 : Value} {v1 : Value} (h0 : kSl_44.ro w F x.inodes [v0]) (h1 : kSl_22.ro w F x.data [v1]) : kT_27.ro w F x [v0, v1] :=
  ⟨_, _, rfl, h0, h1⟩
def RA_27 (x : DFs) (r : Value) (l : List Asn) : Prop := ∃ v0 v1, r = .agg #[v0, v1] ∧ l = [ownA kSl_44 x.inodes [v0], ownA kSl_22 x.data [v1]]
def PA_27 (g e s : Nat) (post : List Value) (x : DFs) (r : Value) (l : List Asn) : Prop := ∃ v0 v1, r = .tuple #[] ∧ l = [rowA g e s 1 (v0 :: v1 :: post), ownA kSl_44 x.inodes [v0], ownA kSl_22 x.data [v1]]
theorem sz_31 : (Tryz.prog.info? 31).map (·.size) = some 2 := by kernel_rfl
theorem z_31 : (Tryz.prog.info? 31).map (·.zero) = some (some (.agg #[.int .i64 0, .slice none 0 0])) := by kernel_rfl
theorem ag_31 : AggIs Tryz.prog 31 true := by unfold AggIs; kernel_rfl
theorem bl_31 : BuildOk Tryz.prog 31 (.agg #[.int .i64 0, .slice none 0 0]) #[(0, 1), (1, 1)] := ⟨by kernel_rfl, by kernel_rfl, fun w => by kernel_rfl⟩
theorem fa_31_0 (ad : Addr) (w : World) : (Instr.fieldAt 31 (.pointer (some ad)) 0).run Tryz.prog w = .ok (.pointer (some (ad.add 0))) w := by kernel_rfl
theorem fa_31_1 (ad : Addr) (w : World) : (Instr.fieldAt 31 (.pointer (some ad)) 1).run Tryz.prog w = .ok (.pointer (some (ad.add 1))) w := by kernel_rfl
def RA_31 (x : RBytes) (r : Value) (l : List Asn) : Prop := ∃ v1, r = .agg #[.int .i64 x.code, v1] ∧ l = [ownA kSl_5 x.bytes [v1]]
theorem sz_38 : (Tryz.prog.info? 38).map (·.size) = some 2 := by kernel_rfl
theorem z_38 : (Tryz.prog.info? 38).map (·.zero) = some (some (.agg #[.int .i64 0, .slice none 0 0])) := by kernel_rfl
theorem ag_38 : AggIs Tryz.prog 38 true := by unfold AggIs; kernel_rfl
theorem bl_38 : BuildOk Tryz.prog 38 (.agg #[.int .i64 0, .slice none 0 0]) #[(0, 1), (1, 1)] := ⟨by kernel_rfl, by kernel_rfl, fun w => by kernel_rfl⟩
theorem fa_38_0 (ad : Addr) (w : World) : (Instr.fieldAt 38 (.pointer (some ad)) 0).run Tryz.prog w = .ok (.pointer (some (ad.add 0))) w := by kernel_rfl
theorem fa_38_1 (ad : Addr) (w : World) : (Instr.fieldAt 38 (.pointer (some ad)) 1).run Tryz.prog w = .ok (.pointer (some (ad.add 1))) w := by kernel_rfl
def RA_38 (x : RInts) (r : Value) (l : List Asn) : Prop := ∃ v1, r = .agg #[.int .i64 x.code, v1] ∧ l = [ownA kSl_2 x.list [v1]]
theorem sz_48 : (Tryz.prog.info? 48).map (·.size) = some 3 := by kernel_rfl
theorem z_48 : (Tryz.prog.info? 48).map (·.zero) = some (some (.agg #[.int .i64 0, .slice none 0 0, .slice none 0 0])) := by kernel_rfl
theorem ag_48 : AggIs Tryz.prog 48 true := by unfold AggIs; kernel_rfl
theorem bl_48 : BuildOk Tryz.prog 48 (.agg #[.int .i64 0, .slice none 0 0, .slice none 0 0]) #[(0, 1), (1, 2)] := ⟨by kernel_rfl, by kernel_rfl, fun w => by kernel_rfl⟩
theorem fa_48_0 (ad : Addr) (w : World) : (Instr.fieldAt 48 (.pointer (some ad)) 0).run Tryz.prog w = .ok (.pointer (some (ad.add 0))) w := by kernel_rfl
theorem fa_48_1 (ad : Addr) (w : World) : (Instr.fieldAt 48 (.pointer (some ad)) 1).run Tryz.prog w = .ok (.pointer (some (ad.add 1))) w := by kernel_rfl
def RA_48 (x : RFs) (r : Value) (l : List Asn) : Prop := ∃ v1 v2, r = .agg #[.int .i64 x.code, v1, v2] ∧ l = [ownA kSl_44 x.fs.inodes [v1], ownA kSl_22 x.fs.data [v2]]
abbrev kSl_9 : Kd (List ByteArray) := kslice 9 16 kstr
theorem u_63 : Tryz.prog.underlying 63 = some (.slice 9) := by kernel_rfl
theorem ag_63 : AggIs Tryz.prog 63 false := by unfold AggIs; kernel_rfl
theorem sz_63 : (Tryz.prog.info? 63).map (·.size) = some 1 := by kernel_rfl
theorem inf_9 : (Tryz.prog.info? 9).map (fun i => (i.size, i.bytes, i.zero)) = some (kstr.sz, 16, some (.string ⟨#[]⟩)) := by kernel_rfl
theorem sz_65 : (Tryz.prog.info? 65).map (·.size) = some 2 := by kernel_rfl
theorem z_65 : (Tryz.prog.info? 65).map (·.zero) = some (some (.agg #[.int .i64 0, .slice none 0 0])) := by kernel_rfl
theorem ag_65 : AggIs Tryz.prog 65 true := by unfold AggIs; kernel_rfl
theorem bl_65 : BuildOk Tryz.prog 65 (.agg #[.int .i64 0, .slice none 0 0]) #[(0, 1), (1, 1)] := ⟨by kernel_rfl, by kernel_rfl, fun w => by kernel_rfl⟩
theorem fa_65_0 (ad : Addr) (w : World) : (Instr.fieldAt 65 (.pointer (some ad)) 0).run Tryz.prog w = .ok (.pointer (some (ad.add 0))) w := by kernel_rfl
theorem fa_65_1 (ad : Addr) (w : World) : (Instr.fieldAt 65 (.pointer (some ad)) 1).run Tryz.prog w = .ok (.pointer (some (ad.add 1))) w := by kernel_rfl
def RA_65 (x : RNames) (r : Value) (l : List Asn) : Prop := ∃ v1, r = .agg #[.int .i64 x.code, v1] ∧ l = [ownA kSl_9 x.names [v1]]
theorem bl_119 : BuildOk Tryz.prog 119 (.agg #[.slice none 0 0, .int .i64 0]) #[(0, 1), (1, 1)] := ⟨by kernel_rfl, by kernel_rfl, fun w => by kernel_rfl⟩
theorem fa_119_0 (ad : Addr) (w : World) : (Instr.fieldAt 119 (.pointer (some ad)) 0).run Tryz.prog w = .ok (.pointer (some (ad.add 0))) w := by kernel_rfl
theorem fa_119_1 (ad : Addr) (w : World) : (Instr.fieldAt 119 (.pointer (some ad)) 1).run Tryz.prog w = .ok (.pointer (some (ad.add 1))) w := by kernel_rfl
abbrev kSl_4 : Kd (List Bool) := kslice 4 1 kbool
theorem u_129 : Tryz.prog.underlying 129 = some (.slice 4) := by kernel_rfl
theorem inf_4 : (Tryz.prog.info? 4).map (fun i => (i.size, i.bytes, i.zero)) = some (kbool.sz, 1, some (.bool false)) := by kernel_rfl
theorem sz_155 : (Tryz.prog.info? 155).map (·.size) = some 7 := by kernel_rfl
theorem z_155 : (Tryz.prog.info? 155).map (·.zero) = some (some (.agg #[.int .i64 0, .int .i64 0, .int .i64 0, .slice none 0 0, .slice none 0 0, .slice none 0 0, .slice none 0 0])) := by kernel_rfl
theorem ag_155 : AggIs Tryz.prog 155 true := by unfold AggIs; kernel_rfl
theorem bl_155 : BuildOk Tryz.prog 155 (.agg #[.int .i64 0, .int .i64 0, .int .i64 0, .slice none 0 0, .slice none 0 0, .slice none 0 0, .slice none 0 0]) #[(0, 1), (1, 1), (2, 1), (3, 1), (4, 1), (5, 2)] := ⟨by kernel_rfl, by kernel_rfl, fun w => by kernel_rfl⟩
theorem fa_155_2 (ad : Addr) (w : World) : (Instr.fieldAt 155 (.pointer (some ad)) 2).run Tryz.prog w = .ok (.pointer (some (ad.add 2))) w := by kernel_rfl
def RA_155 (x : RCall) (r : Value) (l : List Asn) : Prop := ∃ v3 v4 v5 v6, r = .agg #[.int .i64 x.code, .int .i64 x.reply, .int .i64 x.val, v3, v4, v5, v6] ∧ l = [ownA kSl_5 x.bytes [v3], ownA kSl_9 x.names [v4], ownA kSl_44 x.fs.inodes [v5], ownA kSl_22 x.fs.data [v6]]
def kT_158 : Kd DCall := kiso (kpair (kint .i64) (kpair kstr (kpair kstr (kpair (kint .i64) (kpair (kint .i64) kSl_5))))) (fun x => (x.kind, x.path, x.to, x.frm, x.size, x.data))
theorem sz_158 : (Tryz.prog.info? 158).map (·.size) = some 6 := by kernel_rfl
theorem z_158 : (Tryz.prog.info? 158).map (·.zero) = some (some (.agg #[.int .i64 0, .string ⟨#[]⟩, .string ⟨#[]⟩, .int .i64 0, .int .i64 0, .slice none 0 0])) := by kernel_rfl
theorem ag_158 : AggIs Tryz.prog 158 true := by unfold AggIs; kernel_rfl
theorem bl_158 : BuildOk Tryz.prog 158 (.agg #[.int .i64 0, .string ⟨#[]⟩, .string ⟨#[]⟩, .int .i64 0, .int .i64 0, .slice none 0 0]) #[(0, 1), (1, 1), (2, 1), (3, 1), (4, 1), (5, 1)] := ⟨by kernel_rfl, by kernel_rfl, fun w => by kernel_rfl⟩
theorem fa_158_0 (ad : Addr) (w : World) : (Instr.fieldAt 158 (.pointer (some ad)) 0).run Tryz.prog w = .ok (.pointer (some (ad.add 0))) w := by kernel_rfl
theorem fa_158_1 (ad : Addr) (w : World) : (Instr.fieldAt 158 (.pointer (some ad)) 1).run Tryz.prog w = .ok (.pointer (some (ad.add 1))) w := by kernel_rfl
theorem fa_158_2 (ad : Addr) (w : World) : (Instr.fieldAt 158 (.pointer (some ad)) 2).run Tryz.prog w = .ok (.pointer (some (ad.add 2))) w := by kernel_rfl
theorem fa_158_3 (ad : Addr) (w : World) : (Instr.fieldAt 158 (.pointer (some ad)) 3).run Tryz.prog w = .ok (.pointer (some (ad.add 3))) w := by kernel_rfl
theorem fa_158_4 (ad : Addr) (w : World) : (Instr.fieldAt 158 (.pointer (some ad)) 4).run Tryz.prog w = .ok (.pointer (some (ad.add 4))) w := by kernel_rfl
theorem fa_158_5 (ad : Addr) (w : World) : (Instr.fieldAt 158 (.pointer (some ad)) 5).run Tryz.prog w = .ok (.pointer (some (ad.add 5))) w := by kernel_rfl
theorem kT_158_ro {w : World} {F : Bs} {x : DCall} {cs : List Value} (h : kT_158.ro w F x cs) : ∃ v5, cs = [.int .i64 x.kind, .string x.path, .string x.to, .int .i64 x.frm, .int .i64 x.size, v5] ∧ kSl_5.ro w F x.data [v5] ∧ x.path.size ≤ 140737488351232 ∧ x.to.size ≤ 140737488351232 := by
  obtain ⟨_, _, rfl, ⟨rfl, -⟩, ⟨_, _, rfl, ⟨rfl, s1⟩, ⟨_, _, rfl, ⟨rfl, s2⟩, ⟨_, _, rfl, ⟨rfl, -⟩, ⟨_, _, rfl, ⟨rfl, -⟩, h5⟩⟩⟩⟩⟩ := h
  obtain ⟨v5, rfl⟩ := sl_one h5
  exact ⟨v5, rfl, h5, s1, s2⟩
theorem kT_158_mk {w : World} {F : Bs} (x : DCall) {v5 : Value} (h5 : kSl_5.ro w F x.data [v5]) (s1 : x.path.size ≤ 140737488351232) (s2 : x.to.size ≤ 140737488351232) : kT_158.ro w F x [.int .i64 x.kind, .string x.path, .string x.to, .int .i64 x.frm, .int .i64 x.size, v5] :=
  ⟨_, _, rfl, ⟨rfl, trivial⟩, ⟨_, _, rfl, ⟨rfl, s1⟩, ⟨_, _, rfl, ⟨rfl, s2⟩, ⟨_, _, rfl, ⟨rfl, trivial⟩, ⟨_, _, rfl, ⟨rfl, trivial⟩, h5⟩⟩⟩⟩⟩
theorem sz_190 : (Tryz.prog.info? 190).map (·.size) = some 5 := by kernel_rfl
theorem z_190 : (Tryz.prog.info? 190).map (·.zero) = some (some (.agg #[.int .i64 0, .int .i64 0, .int .i64 0, .int .i64 0, .int .i64 0])) := by kernel_rfl
theorem ag_190 : AggIs Tryz.prog 190 true := by unfold AggIs; kernel_rfl
theorem bl_190 : BuildOk Tryz.prog 190 (.agg #[.int .i64 0, .int .i64 0, .int .i64 0, .int .i64 0, .int .i64 0]) #[(0, 1), (1, 1), (2, 1), (3, 1), (4, 1)] := ⟨by kernel_rfl, by kernel_rfl, fun w => by kernel_rfl⟩
theorem fa_190_0 (ad : Addr) (w : World) : (Instr.fieldAt 190 (.pointer (some ad)) 0).run Tryz.prog w = .ok (.pointer (some (ad.add 0))) w := by kernel_rfl
theorem fa_190_2 (ad : Addr) (w : World) : (Instr.fieldAt 190 (.pointer (some ad)) 2).run Tryz.prog w = .ok (.pointer (some (ad.add 2))) w := by kernel_rfl
theorem fa_190_3 (ad : Addr) (w : World) : (Instr.fieldAt 190 (.pointer (some ad)) 3).run Tryz.prog w = .ok (.pointer (some (ad.add 3))) w := by kernel_rfl
theorem fa_190_4 (ad : Addr) (w : World) : (Instr.fieldAt 190 (.pointer (some ad)) 4).run Tryz.prog w = .ok (.pointer (some (ad.add 4))) w := by kernel_rfl
def RA_190 (x : RStat) (r : Value) (l : List Asn) : Prop := r = .agg #[.int .i64 x.code, .int .i64 x.inode, .int .i64 x.kind, .int .i64 x.links, .int .i64 x.size] ∧ l = []
theorem mixo : Tryz.prog.follows .mixedOrders = true := by kernel_rfl
end Go.Proofs.YtmejbfmhaoilmaaGreat

/- What is proved: the kinds of this program's types, laid open and put together; facts on its types. No condition. -/
import Derived.Test.YtkmcpcahbfdohaaProg
import Derived.Test.YtkmcpcahbfdohaaBase0
import Derived.Test.YtkmcpcahbfdohaaBase1
namespace Go.Proofs.Ytkmcpcahbfdohaa
open Go Go.RowKit
set_option maxRecDepth 100000
set_option linter.unusedVariables false
set_option linter.unusedSimpArgs false
theorem u_2 : Try.prog.underlying 2 = some (.int .i64) := by kernel_rfl
theorem sz_2 : (Try.prog.info? 2).map (·.size) = some 1 := by kernel_rfl
theorem z_2 : (Try.prog.info? 2).map (·.zero) = some (some (.int .i64 0)) := by kernel_rfl
theorem ag_2 : AggIs Try.prog 2 false := by unfold AggIs; kernel_rfl
theorem u_3 : Try.prog.underlying 3 = some (.int .i64) := by kernel_rfl
theorem sz_3 : (Try.prog.info? 3).map (·.size) = some 1 := by kernel_rfl
theorem z_3 : (Try.prog.info? 3).map (·.zero) = some (some (.int .i64 0)) := by kernel_rfl
theorem ag_3 : AggIs Try.prog 3 false := by unfold AggIs; kernel_rfl
theorem u_4 : Try.prog.underlying 4 = some .bool := by kernel_rfl
theorem sz_4 : (Try.prog.info? 4).map (·.size) = some 1 := by kernel_rfl
theorem z_4 : (Try.prog.info? 4).map (·.zero) = some (some (.bool false)) := by kernel_rfl
theorem ag_4 : AggIs Try.prog 4 false := by unfold AggIs; kernel_rfl
theorem u_5 : Try.prog.underlying 5 = some (.int .u8) := by kernel_rfl
theorem sz_5 : (Try.prog.info? 5).map (·.size) = some 1 := by kernel_rfl
theorem z_5 : (Try.prog.info? 5).map (·.zero) = some (some (.int .u8 0)) := by kernel_rfl
theorem ag_5 : AggIs Try.prog 5 false := by unfold AggIs; kernel_rfl
abbrev kSl_2 : Kd (List Int) := kslice 2 8 (kint .i64)
theorem u_40 : Try.prog.underlying 40 = some (.slice 2) := by kernel_rfl
theorem ag_40 : AggIs Try.prog 40 false := by unfold AggIs; kernel_rfl
theorem z_40 : (Try.prog.info? 40).map (·.zero) = some (some (.slice none 0 0)) := by kernel_rfl
theorem sz_40 : (Try.prog.info? 40).map (·.size) = some 1 := by kernel_rfl
theorem inf_2 : (Try.prog.info? 2).map (fun i => (i.size, i.bytes, i.zero)) = some ((kint .i64).sz, 8, some (.int .i64 0)) := by kernel_rfl
abbrev kSl_40 : Kd (List (List Int)) := kslice 40 24 kSl_2
theorem u_22 : Try.prog.underlying 22 = some (.slice 40) := by kernel_rfl
theorem ag_22 : AggIs Try.prog 22 false := by unfold AggIs; kernel_rfl
theorem z_22 : (Try.prog.info? 22).map (·.zero) = some (some (.slice none 0 0)) := by kernel_rfl
theorem sz_22 : (Try.prog.info? 22).map (·.size) = some 1 := by kernel_rfl
theorem inf_40 : (Try.prog.info? 40).map (fun i => (i.size, i.bytes, i.zero)) = some (kSl_2.sz, 24, some (.slice none 0 0)) := by kernel_rfl
def kT_57 : Kd DPut := kiso (kpair (kint .i64) kSl_2) (fun x => (x.at_, x.words))
theorem sz_57 : (Try.prog.info? 57).map (·.size) = some 2 := by kernel_rfl
theorem z_57 : (Try.prog.info? 57).map (·.zero) = some (some (.agg #[.int .i64 0, .slice none 0 0])) := by kernel_rfl
theorem ag_57 : AggIs Try.prog 57 true := by unfold AggIs; kernel_rfl
theorem bl_57 : BuildOk Try.prog 57 (.agg #[.int .i64 0, .slice none 0 0]) #[(0, 1), (1, 1)] := ⟨by kernel_rfl, by kernel_rfl, fun w => by kernel_rfl⟩
theorem fa_57_0 (ad : Addr) (w : World) : (Instr.fieldAt 57 (.pointer (some ad)) 0).run Try.prog w = .ok (.pointer (some (ad.add 0))) w := by kernel_rfl
theorem fa_57_1 (ad : Addr) (w : World) : (Instr.fieldAt 57 (.pointer (some ad)) 1).run Try.prog w = .ok (.pointer (some (ad.add 1))) w := by kernel_rfl
theorem kT_57_ro {w : World} {F : Bs} {x : DPut} {cs : List Value} (h : kT_57.ro w F x cs) : ∃ v1, cs = [.int .i64 x.at_, v1] ∧ kSl_2.ro w F x.words [v1] := by
  obtain ⟨_, _, rfl, ⟨rfl, -⟩, h1⟩ := h
  obtain ⟨v1, rfl⟩ := sl_one h1
  exact ⟨v1, rfl, h1⟩
theorem kT_57_mk {w : World} {F : Bs} (x : DPut) {v1 : Value} (h1 : kSl_2.ro w F x.words [v1]) : kT_57.ro w F x [.int .i64 x.at_, v1] :=
  ⟨_, _, rfl, ⟨rfl, trivial⟩, h1⟩
theorem kT_57_own {w : World} {S : Bs} {x : DPut} {cs : List Value} (h : kT_57.own w S x cs) : ∃ v1, cs = [.int .i64 x.at_, v1] ∧ Star [ownA kSl_2 x.words [v1]] w S := by
  obtain ⟨_, _, rfl, a0⟩ := h
  obtain ⟨p0, q0, b0, c0, i0, j0, k0⟩ := star2 a0
  obtain ⟨rfl, -⟩ := b0
  obtain ⟨v1, rfl⟩ := osl_one c0
  have g1 := Star.one (c := ownA kSl_2 x.words [v1]) c0
  have g2 := g1.up j0
  exact ⟨v1, rfl, g2⟩
theorem kT_57_op {x : DPut} {cs : List Value} (w : World) (S : Bs) (h : Star [ownA kT_57 x cs] w S) : ∃ g : Value, cs = [.int .i64 x.at_, g] ∧ Star [ownA kSl_2 x.words [g]] w S := by
  obtain ⟨v1, h1, h2⟩ := kT_57_own (show kT_57.own w S x cs from h.head (c := ownA kT_57 x cs))
  exact ⟨(v1), h1, h2⟩
theorem kT_57_omk {w : World} {S : Bs} (x : DPut) {v1 : Value} (h : Star [ownA kSl_2 x.words [v1]] w S) : kT_57.own w S x [.int .i64 x.at_, v1] := by
  have m1 : Mk (kint .i64) x.at_ [.int .i64 x.at_] [] := mk_int
  have m2 : Mk kSl_2 x.words [v1] [ownA kSl_2 x.words [v1]] := mk_leaf
  have m3 : Mk (kpair (kint .i64) kSl_2) (x.at_, x.words) ([.int .i64 x.at_] ++ [v1]) ([] ++ [ownA kSl_2 x.words [v1]]) := mk_pair m1 m2
  have m0 : Mk kT_57 x ([.int .i64 x.at_] ++ [v1]) ([] ++ [ownA kSl_2 x.words [v1]]) := m3
  exact m0 w S h
def RA_57 (x : DPut) (r : Value) (l : List Asn) : Prop := ∃ v1, r = .agg #[.int .i64 x.at_, v1] ∧ l = [ownA kSl_2 x.words [v1]]
theorem zero_57 (w : World) (S : Bs) : kT_57.own w S (⟨0, []⟩ : DPut) [.int .i64 0, .slice none 0 0] := kT_57_omk (⟨0, []⟩ : DPut) (⟨fun _ => False, fun _ => False, own_nil _ _ none, trivial, fun _ h => h.elim, fun _ h => h.elim, fun _ h => h.elim⟩)
def PA_57 (g e s : Nat) (post : List Value) (x : DPut) (r : Value) (l : List Asn) : Prop := ∃ v1, r = .tuple #[] ∧ l = [rowA g e s 1 ((.int .i64 x.at_) :: v1 :: post), ownA kSl_2 x.words [v1]]
abbrev kSl_57 : Kd (List DPut) := kslice 57 32 kT_57
theorem u_23 : Try.prog.underlying 23 = some (.slice 57) := by kernel_rfl
theorem ag_23 : AggIs Try.prog 23 false := by unfold AggIs; kernel_rfl
theorem z_23 : (Try.prog.info? 23).map (·.zero) = some (some (.slice none 0 0)) := by kernel_rfl
theorem sz_23 : (Try.prog.info? 23).map (·.size) = some 1 := by kernel_rfl
theorem inf_57 : (Try.prog.info? 57).map (fun i => (i.size, i.bytes, i.zero)) = some (kT_57.sz, 32, some (.agg #[.int .i64 0, .slice none 0 0])) := by kernel_rfl
def kT_25 : Kd DDisk := kiso (kpair kSl_40 kSl_57) (fun x => (x.blocks, x.cache))
theorem sz_25 : (Try.prog.info? 25).map (·.size) = some 2 := by kernel_rfl
theorem z_25 : (Try.prog.info? 25).map (·.zero) = some (some (.agg #[.slice none 0 0, .slice none 0 0])) := by kernel_rfl
theorem ag_25 : AggIs Try.prog 25 true := by unfold AggIs; kernel_rfl
theorem bl_25 : BuildOk Try.prog 25 (.agg #[.slice none 0 0, .slice none 0 0]) #[(0, 1), (1, 1)] := ⟨by kernel_rfl, by kernel_rfl, fun w => by kernel_rfl⟩
theorem fa_25_0 (ad : Addr) (w : World) : (Instr.fieldAt 25 (.pointer (some ad)) 0).run Try.prog w = .ok (.pointer (some (ad.add 0))) w := by kernel_rfl
theorem fa_25_1 (ad : Addr) (w : World) : (Instr.fieldAt 25 (.pointer (some ad)) 1).run Try.prog w = .ok (.pointer (some (ad.add 1))) w := by kernel_rfl
theorem kT_25_ro {w : World} {F : Bs} {x : DDisk} {cs : List Value} (h : kT_25.ro w F x cs) : ∃ v0 v1, cs = [v0, v1] ∧ kSl_40.ro w F x.blocks [v0] ∧ kSl_57.ro w F x.cache [v1] := by
  obtain ⟨_, _, rfl, h0, h1⟩ := h
  obtain ⟨v0, rfl⟩ := sl_one h0
  obtain ⟨v1, rfl⟩ := sl_one h1
  exact ⟨v0, v1, rfl, h0, h1⟩
theorem kT_25_mk {w : World} {F : Bs} (x : DDisk) {v0 : Value} {v1 : Value} (h0 : kSl_40.ro w F x.blocks [v0]) (h1 : kSl_57.ro w F x.cache [v1]) : kT_25.ro w F x [v0, v1] :=
  ⟨_, _, rfl, h0, h1⟩
theorem kT_25_own {w : World} {S : Bs} {x : DDisk} {cs : List Value} (h : kT_25.own w S x cs) : ∃ v0 v1, cs = [v0, v1] ∧ Star [ownA kSl_40 x.blocks [v0], ownA kSl_57 x.cache [v1]] w S := by
  obtain ⟨_, _, rfl, a0⟩ := h
  obtain ⟨p0, q0, b0, c0, i0, j0, k0⟩ := star2 a0
  obtain ⟨v0, rfl⟩ := osl_one b0
  have g1 := Star.one (c := ownA kSl_40 x.blocks [v0]) b0
  obtain ⟨v1, rfl⟩ := osl_one c0
  have g2 := Star.one (c := ownA kSl_57 x.cache [v1]) c0
  have g3 := g1.app g2 i0 j0 k0
  exact ⟨v0, v1, rfl, g3⟩
theorem kT_25_op {x : DDisk} {cs : List Value} (w : World) (S : Bs) (h : Star [ownA kT_25 x cs] w S) : ∃ g : Value × Value, cs = [g.1, g.2] ∧ Star [ownA kSl_40 x.blocks [g.1], ownA kSl_57 x.cache [g.2]] w S := by
  obtain ⟨v0, v1, h1, h2⟩ := kT_25_own (show kT_25.own w S x cs from h.head (c := ownA kT_25 x cs))
  exact ⟨(v0, v1), h1, h2⟩
theorem kT_25_omk {w : World} {S : Bs} (x : DDisk) {v0 : Value} {v1 : Value} (h : Star [ownA kSl_40 x.blocks [v0], ownA kSl_57 x.cache [v1]] w S) : kT_25.own w S x [v0, v1] := by
  have m1 : Mk kSl_40 x.blocks [v0] [ownA kSl_40 x.blocks [v0]] := mk_leaf
  have m2 : Mk kSl_57 x.cache [v1] [ownA kSl_57 x.cache [v1]] := mk_leaf
  have m3 : Mk (kpair kSl_40 kSl_57) (x.blocks, x.cache) ([v0] ++ [v1]) ([ownA kSl_40 x.blocks [v0]] ++ [ownA kSl_57 x.cache [v1]]) := mk_pair m1 m2
  have m0 : Mk kT_25 x ([v0] ++ [v1]) ([ownA kSl_40 x.blocks [v0]] ++ [ownA kSl_57 x.cache [v1]]) := m3
  exact m0 w S h
def RA_25 (x : DDisk) (r : Value) (l : List Asn) : Prop := ∃ v0 v1, r = .agg #[v0, v1] ∧ l = [ownA kSl_40 x.blocks [v0], ownA kSl_57 x.cache [v1]]
theorem zero_25 (w : World) (S : Bs) : kT_25.own w S (⟨[], []⟩ : DDisk) [.slice none 0 0, .slice none 0 0] := kT_25_omk (⟨[], []⟩ : DDisk) (⟨fun _ => False, fun _ => False, own_nil _ _ none, ⟨fun _ => False, fun _ => False, own_nil _ _ none, trivial, fun _ h => h.elim, fun _ h => h.elim, fun _ h => h.elim⟩, fun _ h => h.elim, fun _ h => h.elim, fun _ h => h.elim⟩)
def PA_25 (g e s : Nat) (post : List Value) (x : DDisk) (r : Value) (l : List Asn) : Prop := ∃ v0 v1, r = .tuple #[] ∧ l = [rowA g e s 1 (v0 :: v1 :: post), ownA kSl_40 x.blocks [v0], ownA kSl_57 x.cache [v1]]
def kT_27 : Kd RDisk := kiso (kpair (kint .i64) kT_25) (fun x => (x.code, x.disk))
theorem sz_27 : (Try.prog.info? 27).map (·.size) = some 3 := by kernel_rfl
theorem z_27 : (Try.prog.info? 27).map (·.zero) = some (some (.agg #[.int .i64 0, .slice none 0 0, .slice none 0 0])) := by kernel_rfl
theorem ag_27 : AggIs Try.prog 27 true := by unfold AggIs; kernel_rfl
theorem bl_27 : BuildOk Try.prog 27 (.agg #[.int .i64 0, .slice none 0 0, .slice none 0 0]) #[(0, 1), (1, 2)] := ⟨by kernel_rfl, by kernel_rfl, fun w => by kernel_rfl⟩
theorem fa_27_0 (ad : Addr) (w : World) : (Instr.fieldAt 27 (.pointer (some ad)) 0).run Try.prog w = .ok (.pointer (some (ad.add 0))) w := by kernel_rfl
theorem fa_27_1 (ad : Addr) (w : World) : (Instr.fieldAt 27 (.pointer (some ad)) 1).run Try.prog w = .ok (.pointer (some (ad.add 1))) w := by kernel_rfl
theorem kT_27_ro {w : World} {F : Bs} {x : RDisk} {cs : List Value} (h : kT_27.ro w F x cs) : ∃ v1 v2, cs = [.int .i64 x.code, v1, v2] ∧ kSl_40.ro w F x.disk.blocks [v1] ∧ kSl_57.ro w F x.disk.cache [v2] := by
  obtain ⟨_, _, rfl, ⟨rfl, -⟩, ⟨_, _, rfl, h1, h2⟩⟩ := h
  obtain ⟨v1, rfl⟩ := sl_one h1
  obtain ⟨v2, rfl⟩ := sl_one h2
  exact ⟨v1, v2, rfl, h1, h2⟩
theorem kT_27_mk {w : World} {F : Bs} (x : RDisk) {v1 : Value} {v2 : Value} (h1 : kSl_40.ro w F x.disk.blocks [v1]) (h2 : kSl_57.ro w F x.disk.cache [v2]) : kT_27.ro w F x [.int .i64 x.code, v1, v2] :=
  ⟨_, _, rfl, ⟨rfl, trivial⟩, ⟨_, _, rfl, h1, h2⟩⟩
theorem kT_27_own {w : World} {S : Bs} {x : RDisk} {cs : List Value} (h : kT_27.own w S x cs) : ∃ v1 v2, cs = [.int .i64 x.code, v1, v2] ∧ Star [ownA kSl_40 x.disk.blocks [v1], ownA kSl_57 x.disk.cache [v2]] w S := by
  obtain ⟨_, _, rfl, a0⟩ := h
  obtain ⟨p0, q0, b0, c0, i0, j0, k0⟩ := star2 a0
  obtain ⟨rfl, -⟩ := b0
  obtain ⟨_, _, rfl, a1⟩ := c0
  obtain ⟨p1, q1, b1, c1, i1, j1, k1⟩ := star2 a1
  obtain ⟨v1, rfl⟩ := osl_one b1
  have g2 := Star.one (c := ownA kSl_40 x.disk.blocks [v1]) b1
  obtain ⟨v2, rfl⟩ := osl_one c1
  have g3 := Star.one (c := ownA kSl_57 x.disk.cache [v2]) c1
  have g4 := g2.app g3 i1 j1 k1
  have g5 := g4.up j0
  exact ⟨v1, v2, rfl, g5⟩
theorem kT_27_op {x : RDisk} {cs : List Value} (w : World) (S : Bs) (h : Star [ownA kT_27 x cs] w S) : ∃ g : Value × Value, cs = [.int .i64 x.code, g.1, g.2] ∧ Star [ownA kSl_40 x.disk.blocks [g.1], ownA kSl_57 x.disk.cache [g.2]] w S := by
  obtain ⟨v1, v2, h1, h2⟩ := kT_27_own (show kT_27.own w S x cs from h.head (c := ownA kT_27 x cs))
  exact ⟨(v1, v2), h1, h2⟩
theorem kT_27_omk {w : World} {S : Bs} (x : RDisk) {v1 : Value} {v2 : Value} (h : Star [ownA kSl_40 x.disk.blocks [v1], ownA kSl_57 x.disk.cache [v2]] w S) : kT_27.own w S x [.int .i64 x.code, v1, v2] := by
  have m1 : Mk (kint .i64) x.code [.int .i64 x.code] [] := mk_int
  have m3 : Mk kSl_40 x.disk.blocks [v1] [ownA kSl_40 x.disk.blocks [v1]] := mk_leaf
  have m4 : Mk kSl_57 x.disk.cache [v2] [ownA kSl_57 x.disk.cache [v2]] := mk_leaf
  have m5 : Mk (kpair kSl_40 kSl_57) (x.disk.blocks, x.disk.cache) ([v1] ++ [v2]) ([ownA kSl_40 x.disk.blocks [v1]] ++ [ownA kSl_57 x.disk.cache [v2]]) := mk_pair m3 m4
  have m2 : Mk kT_25 x.disk ([v1] ++ [v2]) ([ownA kSl_40 x.disk.blocks [v1]] ++ [ownA kSl_57 x.disk.cache [v2]]) := m5
  have m6 : Mk (kpair (kint .i64) kT_25) (x.code, x.disk) ([.int .i64 x.code] ++ ([v1] ++ [v2])) ([] ++ ([ownA kSl_40 x.disk.blocks [v1]] ++ [ownA kSl_57 x.disk.cache [v2]])) := mk_pair m1 m2
  have m0 : Mk kT_27 x ([.int .i64 x.code] ++ ([v1] ++ [v2])) ([] ++ ([ownA kSl_40 x.disk.blocks [v1]] ++ [ownA kSl_57 x.disk.cache [v2]])) := m6
  exact m0 w S h
def RA_27 (x : RDisk) (r : Value) (l : List Asn) : Prop := ∃ v1 v2, r = .agg #[.int .i64 x.code, v1, v2] ∧ l = [ownA kSl_40 x.disk.blocks [v1], ownA kSl_57 x.disk.cache [v2]]
theorem zero_27 (w : World) (S : Bs) : kT_27.own w S (⟨0, (⟨[], []⟩ : DDisk)⟩ : RDisk) [.int .i64 0, .slice none 0 0, .slice none 0 0] := kT_27_omk (⟨0, (⟨[], []⟩ : DDisk)⟩ : RDisk) (⟨fun _ => False, fun _ => False, own_nil _ _ none, ⟨fun _ => False, fun _ => False, own_nil _ _ none, trivial, fun _ h => h.elim, fun _ h => h.elim, fun _ h => h.elim⟩, fun _ h => h.elim, fun _ h => h.elim, fun _ h => h.elim⟩)
def PA_27 (g e s : Nat) (post : List Value) (x : RDisk) (r : Value) (l : List Asn) : Prop := ∃ v1 v2, r = .tuple #[] ∧ l = [rowA g e s 1 ((.int .i64 x.code) :: v1 :: v2 :: post), ownA kSl_40 x.disk.blocks [v1], ownA kSl_57 x.disk.cache [v2]]
def kT_152 : Kd DPut := kiso (kpair (kint .i64) kSl_2) (fun x => (x.at_, x.words))
theorem sz_152 : (Try.prog.info? 152).map (·.size) = some 2 := by kernel_rfl
theorem z_152 : (Try.prog.info? 152).map (·.zero) = some (some (.agg #[.int .i64 0, .slice none 0 0])) := by kernel_rfl
theorem ag_152 : AggIs Try.prog 152 true := by unfold AggIs; kernel_rfl
theorem bl_152 : BuildOk Try.prog 152 (.agg #[.int .i64 0, .slice none 0 0]) #[(0, 1), (1, 1)] := ⟨by kernel_rfl, by kernel_rfl, fun w => by kernel_rfl⟩
theorem fa_152_0 (ad : Addr) (w : World) : (Instr.fieldAt 152 (.pointer (some ad)) 0).run Try.prog w = .ok (.pointer (some (ad.add 0))) w := by kernel_rfl
theorem fa_152_1 (ad : Addr) (w : World) : (Instr.fieldAt 152 (.pointer (some ad)) 1).run Try.prog w = .ok (.pointer (some (ad.add 1))) w := by kernel_rfl
theorem kT_152_ro {w : World} {F : Bs} {x : DPut} {cs : List Value} (h : kT_152.ro w F x cs) : ∃ v1, cs = [.int .i64 x.at_, v1] ∧ kSl_2.ro w F x.words [v1] := by
  obtain ⟨_, _, rfl, ⟨rfl, -⟩, h1⟩ := h
  obtain ⟨v1, rfl⟩ := sl_one h1
  exact ⟨v1, rfl, h1⟩
theorem kT_152_mk {w : World} {F : Bs} (x : DPut) {v1 : Value} (h1 : kSl_2.ro w F x.words [v1]) : kT_152.ro w F x [.int .i64 x.at_, v1] :=
  ⟨_, _, rfl, ⟨rfl, trivial⟩, h1⟩
theorem kT_152_own {w : World} {S : Bs} {x : DPut} {cs : List Value} (h : kT_152.own w S x cs) : ∃ v1, cs = [.int .i64 x.at_, v1] ∧ Star [ownA kSl_2 x.words [v1]] w S := by
  obtain ⟨_, _, rfl, a0⟩ := h
  obtain ⟨p0, q0, b0, c0, i0, j0, k0⟩ := star2 a0
  obtain ⟨rfl, -⟩ := b0
  obtain ⟨v1, rfl⟩ := osl_one c0
  have g1 := Star.one (c := ownA kSl_2 x.words [v1]) c0
  have g2 := g1.up j0
  exact ⟨v1, rfl, g2⟩
theorem kT_152_op {x : DPut} {cs : List Value} (w : World) (S : Bs) (h : Star [ownA kT_152 x cs] w S) : ∃ g : Value, cs = [.int .i64 x.at_, g] ∧ Star [ownA kSl_2 x.words [g]] w S := by
  obtain ⟨v1, h1, h2⟩ := kT_152_own (show kT_152.own w S x cs from h.head (c := ownA kT_152 x cs))
  exact ⟨(v1), h1, h2⟩
theorem kT_152_omk {w : World} {S : Bs} (x : DPut) {v1 : Value} (h : Star [ownA kSl_2 x.words [v1]] w S) : kT_152.own w S x [.int .i64 x.at_, v1] := by
  have m1 : Mk (kint .i64) x.at_ [.int .i64 x.at_] [] := mk_int
  have m2 : Mk kSl_2 x.words [v1] [ownA kSl_2 x.words [v1]] := mk_leaf
  have m3 : Mk (kpair (kint .i64) kSl_2) (x.at_, x.words) ([.int .i64 x.at_] ++ [v1]) ([] ++ [ownA kSl_2 x.words [v1]]) := mk_pair m1 m2
  have m0 : Mk kT_152 x ([.int .i64 x.at_] ++ [v1]) ([] ++ [ownA kSl_2 x.words [v1]]) := m3
  exact m0 w S h
def RA_152 (x : DPut) (r : Value) (l : List Asn) : Prop := ∃ v1, r = .agg #[.int .i64 x.at_, v1] ∧ l = [ownA kSl_2 x.words [v1]]
theorem zero_152 (w : World) (S : Bs) : kT_152.own w S (⟨0, []⟩ : DPut) [.int .i64 0, .slice none 0 0] := kT_152_omk (⟨0, []⟩ : DPut) (⟨fun _ => False, fun _ => False, own_nil _ _ none, trivial, fun _ h => h.elim, fun _ h => h.elim, fun _ h => h.elim⟩)
def PA_152 (g e s : Nat) (post : List Value) (x : DPut) (r : Value) (l : List Asn) : Prop := ∃ v1, r = .tuple #[] ∧ l = [rowA g e s 1 ((.int .i64 x.at_) :: v1 :: post), ownA kSl_2 x.words [v1]]
abbrev kSl_152 : Kd (List DPut) := kslice 152 32 kT_152
theorem u_32 : Try.prog.underlying 32 = some (.slice 152) := by kernel_rfl
theorem ag_32 : AggIs Try.prog 32 false := by unfold AggIs; kernel_rfl
theorem z_32 : (Try.prog.info? 32).map (·.zero) = some (some (.slice none 0 0)) := by kernel_rfl
theorem sz_32 : (Try.prog.info? 32).map (·.size) = some 1 := by kernel_rfl
theorem inf_152 : (Try.prog.info? 152).map (fun i => (i.size, i.bytes, i.zero)) = some (kT_152.sz, 32, some (.agg #[.int .i64 0, .slice none 0 0])) := by kernel_rfl
def kT_34 : Kd DDisk := kiso (kpair kSl_40 kSl_152) (fun x => (x.blocks, x.cache))
theorem sz_34 : (Try.prog.info? 34).map (·.size) = some 2 := by kernel_rfl
theorem z_34 : (Try.prog.info? 34).map (·.zero) = some (some (.agg #[.slice none 0 0, .slice none 0 0])) := by kernel_rfl
theorem ag_34 : AggIs Try.prog 34 true := by unfold AggIs; kernel_rfl
theorem bl_34 : BuildOk Try.prog 34 (.agg #[.slice none 0 0, .slice none 0 0]) #[(0, 1), (1, 1)] := ⟨by kernel_rfl, by kernel_rfl, fun w => by kernel_rfl⟩
theorem fa_34_0 (ad : Addr) (w : World) : (Instr.fieldAt 34 (.pointer (some ad)) 0).run Try.prog w = .ok (.pointer (some (ad.add 0))) w := by kernel_rfl
theorem fa_34_1 (ad : Addr) (w : World) : (Instr.fieldAt 34 (.pointer (some ad)) 1).run Try.prog w = .ok (.pointer (some (ad.add 1))) w := by kernel_rfl
theorem kT_34_ro {w : World} {F : Bs} {x : DDisk} {cs : List Value} (h : kT_34.ro w F x cs) : ∃ v0 v1, cs = [v0, v1] ∧ kSl_40.ro w F x.blocks [v0] ∧ kSl_152.ro w F x.cache [v1] := by
  obtain ⟨_, _, rfl, h0, h1⟩ := h
  obtain ⟨v0, rfl⟩ := sl_one h0
  obtain ⟨v1, rfl⟩ := sl_one h1
  exact ⟨v0, v1, rfl, h0, h1⟩
theorem kT_34_mk {w : World} {F : Bs} (x : DDisk) {v0 : Value} {v1 : Value} (h0 : kSl_40.ro w F x.blocks [v0]) (h1 : kSl_152.ro w F x.cache [v1]) : kT_34.ro w F x [v0, v1] :=
  ⟨_, _, rfl, h0, h1⟩
theorem kT_34_own {w : World} {S : Bs} {x : DDisk} {cs : List Value} (h : kT_34.own w S x cs) : ∃ v0 v1, cs = [v0, v1] ∧ Star [ownA kSl_40 x.blocks [v0], ownA kSl_152 x.cache [v1]] w S := by
  obtain ⟨_, _, rfl, a0⟩ := h
  obtain ⟨p0, q0, b0, c0, i0, j0, k0⟩ := star2 a0
  obtain ⟨v0, rfl⟩ := osl_one b0
  have g1 := Star.one (c := ownA kSl_40 x.blocks [v0]) b0
  obtain ⟨v1, rfl⟩ := osl_one c0
  have g2 := Star.one (c := ownA kSl_152 x.cache [v1]) c0
  have g3 := g1.app g2 i0 j0 k0
  exact ⟨v0, v1, rfl, g3⟩
theorem kT_34_op {x : DDisk} {cs : List Value} (w : World) (S : Bs) (h : Star [ownA kT_34 x cs] w S) : ∃ g : Value × Value, cs = [g.1, g.2] ∧ Star [ownA kSl_40 x.blocks [g.1], ownA kSl_152 x.cache [g.2]] w S := by
  obtain ⟨v0, v1, h1, h2⟩ := kT_34_own (show kT_34.own w S x cs from h.head (c := ownA kT_34 x cs))
  exact ⟨(v0, v1), h1, h2⟩
theorem kT_34_omk {w : World} {S : Bs} (x : DDisk) {v0 : Value} {v1 : Value} (h : Star [ownA kSl_40 x.blocks [v0], ownA kSl_152 x.cache [v1]] w S) : kT_34.own w S x [v0, v1] := by
  have m1 : Mk kSl_40 x.blocks [v0] [ownA kSl_40 x.blocks [v0]] := mk_leaf
  have m2 : Mk kSl_152 x.cache [v1] [ownA kSl_152 x.cache [v1]] := mk_leaf
  have m3 : Mk (kpair kSl_40 kSl_152) (x.blocks, x.cache) ([v0] ++ [v1]) ([ownA kSl_40 x.blocks [v0]] ++ [ownA kSl_152 x.cache [v1]]) := mk_pair m1 m2
  have m0 : Mk kT_34 x ([v0] ++ [v1]) ([ownA kSl_40 x.blocks [v0]] ++ [ownA kSl_152 x.cache [v1]]) := m3
  exact m0 w S h
def RA_34 (x : DDisk) (r : Value) (l : List Asn) : Prop := ∃ v0 v1, r = .agg #[v0, v1] ∧ l = [ownA kSl_40 x.blocks [v0], ownA kSl_152 x.cache [v1]]
theorem zero_34 (w : World) (S : Bs) : kT_34.own w S (⟨[], []⟩ : DDisk) [.slice none 0 0, .slice none 0 0] := kT_34_omk (⟨[], []⟩ : DDisk) (⟨fun _ => False, fun _ => False, own_nil _ _ none, ⟨fun _ => False, fun _ => False, own_nil _ _ none, trivial, fun _ h => h.elim, fun _ h => h.elim, fun _ h => h.elim⟩, fun _ h => h.elim, fun _ h => h.elim, fun _ h => h.elim⟩)
def PA_34 (g e s : Nat) (post : List Value) (x : DDisk) (r : Value) (l : List Asn) : Prop := ∃ v0 v1, r = .tuple #[] ∧ l = [rowA g e s 1 (v0 :: v1 :: post), ownA kSl_40 x.blocks [v0], ownA kSl_152 x.cache [v1]]
def kT_135 : Kd DExt := kiso (kpair (kint .i64) (kpair (kint .i64) (kint .i64))) (fun x => (x.frm, x.cnt, x.key))
theorem sz_135 : (Try.prog.info? 135).map (·.size) = some 3 := by kernel_rfl
theorem z_135 : (Try.prog.info? 135).map (·.zero) = some (some (.agg #[.int .i64 0, .int .i64 0, .int .i64 0])) := by kernel_rfl
theorem ag_135 : AggIs Try.prog 135 true := by unfold AggIs; kernel_rfl
theorem bl_135 : BuildOk Try.prog 135 (.agg #[.int .i64 0, .int .i64 0, .int .i64 0]) #[(0, 1), (1, 1), (2, 1)] := ⟨by kernel_rfl, by kernel_rfl, fun w => by kernel_rfl⟩
theorem fa_135_0 (ad : Addr) (w : World) : (Instr.fieldAt 135 (.pointer (some ad)) 0).run Try.prog w = .ok (.pointer (some (ad.add 0))) w := by kernel_rfl
theorem fa_135_1 (ad : Addr) (w : World) : (Instr.fieldAt 135 (.pointer (some ad)) 1).run Try.prog w = .ok (.pointer (some (ad.add 1))) w := by kernel_rfl
theorem fa_135_2 (ad : Addr) (w : World) : (Instr.fieldAt 135 (.pointer (some ad)) 2).run Try.prog w = .ok (.pointer (some (ad.add 2))) w := by kernel_rfl
theorem ent_gd_135 : Try.prog.eqGuardType Try.prog.depth 135 = false := by kernel_rfl
theorem ent_eq_135 (x y : DExt) (w : World) : (Op.equalIn 10000 135 (.agg #[.int .i64 x.frm, .int .i64 x.cnt, .int .i64 x.key]) (.agg #[.int .i64 y.frm, .int .i64 y.cnt, .int .i64 y.key])).run Try.prog w = .ok (decide (x = y)) w := by
  rw [run_equalIn_struct w 9999 135 _ _ (by kernel_rfl) (by kernel_rfl)]
  rw [show (Try.prog.fieldsOf 135).toList = [(Try.prog.fieldsOf 135)[0]!, (Try.prog.fieldsOf 135)[1]!, (Try.prog.fieldsOf 135)[2]!] by kernel_rfl]
  refine ((eqFs_cons (a := .int .i64 x.frm) (b := .int .i64 y.frm) (by kernel_rfl) (fun w => by kernel_rfl) (fun w => by kernel_rfl) (fun w => run_equalIn_int w 9998 _ .i64 .i64 x.frm y.frm (by kernel_rfl)) (eqFs_cons (a := .int .i64 x.cnt) (b := .int .i64 y.cnt) (by kernel_rfl) (fun w => by kernel_rfl) (fun w => by kernel_rfl) (fun w => run_equalIn_int w 9998 _ .i64 .i64 x.cnt y.cnt (by kernel_rfl)) (eqFs_cons (a := .int .i64 x.key) (b := .int .i64 y.key) (by kernel_rfl) (fun w => by kernel_rfl) (fun w => by kernel_rfl) (fun w => run_equalIn_int w 9998 _ .i64 .i64 x.key y.key (by kernel_rfl)) eqFs_nil))) w).trans ?_
  congr 1; cases x; cases y; simp only [beq_str, beq_int, Bool.and_true, DExt.mk.injEq, Bool.decide_and]
theorem kT_135_ro {w : World} {F : Bs} {x : DExt} {cs : List Value} (h : kT_135.ro w F x cs) : cs = [.int .i64 x.frm, .int .i64 x.cnt, .int .i64 x.key] := by
  obtain ⟨_, _, rfl, ⟨rfl, -⟩, ⟨_, _, rfl, ⟨rfl, -⟩, ⟨rfl, -⟩⟩⟩ := h
  exact rfl
theorem kT_135_mk {w : World} {F : Bs} (x : DExt) : kT_135.ro w F x [.int .i64 x.frm, .int .i64 x.cnt, .int .i64 x.key] :=
  ⟨_, _, rfl, ⟨rfl, trivial⟩, ⟨_, _, rfl, ⟨rfl, trivial⟩, ⟨rfl, trivial⟩⟩⟩
theorem kT_135_own {w : World} {S : Bs} {x : DExt} {cs : List Value} (h : kT_135.own w S x cs) : cs = [.int .i64 x.frm, .int .i64 x.cnt, .int .i64 x.key] ∧ Star [] w S := by
  obtain ⟨_, _, rfl, a0⟩ := h
  obtain ⟨p0, q0, b0, c0, i0, j0, k0⟩ := star2 a0
  obtain ⟨rfl, -⟩ := b0
  obtain ⟨_, _, rfl, a1⟩ := c0
  obtain ⟨p1, q1, b1, c1, i1, j1, k1⟩ := star2 a1
  obtain ⟨rfl, -⟩ := b1
  obtain ⟨rfl, -⟩ := c1
  exact ⟨rfl, trivial⟩
theorem kT_135_op {x : DExt} {cs : List Value} (w : World) (S : Bs) (h : Star [ownA kT_135 x cs] w S) : ∃ g : Unit, cs = [.int .i64 x.frm, .int .i64 x.cnt, .int .i64 x.key] ∧ Star [] w S := by
  obtain ⟨h1, h2⟩ := kT_135_own (show kT_135.own w S x cs from h.head (c := ownA kT_135 x cs))
  exact ⟨(), h1, h2⟩
theorem kT_135_omk {w : World} {S : Bs} (x : DExt) (h : Star [] w S) : kT_135.own w S x [.int .i64 x.frm, .int .i64 x.cnt, .int .i64 x.key] := by
  have m1 : Mk (kint .i64) x.frm [.int .i64 x.frm] [] := mk_int
  have m2 : Mk (kint .i64) x.cnt [.int .i64 x.cnt] [] := mk_int
  have m3 : Mk (kint .i64) x.key [.int .i64 x.key] [] := mk_int
  have m4 : Mk (kpair (kint .i64) (kint .i64)) (x.cnt, x.key) ([.int .i64 x.cnt] ++ [.int .i64 x.key]) ([] ++ []) := mk_pair m2 m3
  have m5 : Mk (kpair (kint .i64) (kpair (kint .i64) (kint .i64))) (x.frm, (x.cnt, x.key)) ([.int .i64 x.frm] ++ ([.int .i64 x.cnt] ++ [.int .i64 x.key])) ([] ++ ([] ++ [])) := mk_pair m1 m4
  have m0 : Mk kT_135 x ([.int .i64 x.frm] ++ ([.int .i64 x.cnt] ++ [.int .i64 x.key])) ([] ++ ([] ++ [])) := m5
  exact m0 w S h
def RA_135 (x : DExt) (r : Value) (l : List Asn) : Prop := r = .agg #[.int .i64 x.frm, .int .i64 x.cnt, .int .i64 x.key] ∧ l = []
theorem zero_135 (w : World) (S : Bs) : kT_135.own w S (⟨0, 0, 0⟩ : DExt) [.int .i64 0, .int .i64 0, .int .i64 0] := kT_135_omk (⟨0, 0, 0⟩ : DExt) (trivial)
def PA_135 (g e s : Nat) (post : List Value) (x : DExt) (r : Value) (l : List Asn) : Prop := r = .tuple #[] ∧ l = [rowA g e s 1 ((.int .i64 x.frm) :: (.int .i64 x.cnt) :: (.int .i64 x.key) :: post)]
abbrev kSl_135 : Kd (List DExt) := kslice 135 24 kT_135
theorem u_41 : Try.prog.underlying 41 = some (.slice 135) := by kernel_rfl
theorem ag_41 : AggIs Try.prog 41 false := by unfold AggIs; kernel_rfl
theorem z_41 : (Try.prog.info? 41).map (·.zero) = some (some (.slice none 0 0)) := by kernel_rfl
theorem sz_41 : (Try.prog.info? 41).map (·.size) = some 1 := by kernel_rfl
theorem inf_135 : (Try.prog.info? 135).map (fun i => (i.size, i.bytes, i.zero)) = some (kT_135.sz, 24, some (.agg #[.int .i64 0, .int .i64 0, .int .i64 0])) := by kernel_rfl
def kT_43 : Kd DKern := kiso (kpair kT_25 kSl_135) (fun x => (x.disk, x.exts))
theorem sz_43 : (Try.prog.info? 43).map (·.size) = some 3 := by kernel_rfl
theorem z_43 : (Try.prog.info? 43).map (·.zero) = some (some (.agg #[.slice none 0 0, .slice none 0 0, .slice none 0 0])) := by kernel_rfl
theorem ag_43 : AggIs Try.prog 43 true := by unfold AggIs; kernel_rfl
theorem bl_43 : BuildOk Try.prog 43 (.agg #[.slice none 0 0, .slice none 0 0, .slice none 0 0]) #[(0, 2), (2, 1)] := ⟨by kernel_rfl, by kernel_rfl, fun w => by kernel_rfl⟩
theorem fa_43_0 (ad : Addr) (w : World) : (Instr.fieldAt 43 (.pointer (some ad)) 0).run Try.prog w = .ok (.pointer (some (ad.add 0))) w := by kernel_rfl
theorem fa_43_1 (ad : Addr) (w : World) : (Instr.fieldAt 43 (.pointer (some ad)) 1).run Try.prog w = .ok (.pointer (some (ad.add 2))) w := by kernel_rfl
theorem kT_43_ro {w : World} {F : Bs} {x : DKern} {cs : List Value} (h : kT_43.ro w F x cs) : ∃ v0 v1 v2, cs = [v0, v1, v2] ∧ kSl_40.ro w F x.disk.blocks [v0] ∧ kSl_57.ro w F x.disk.cache [v1] ∧ kSl_135.ro w F x.exts [v2] := by
  obtain ⟨_, _, rfl, ⟨_, _, rfl, h0, h1⟩, h2⟩ := h
  obtain ⟨v0, rfl⟩ := sl_one h0
  obtain ⟨v1, rfl⟩ := sl_one h1
  obtain ⟨v2, rfl⟩ := sl_one h2
  exact ⟨v0, v1, v2, rfl, h0, h1, h2⟩
theorem kT_43_mk {w : World} {F : Bs} (x : DKern) {v0 : Value} {v1 : Value} {v2 : Value} (h0 : kSl_40.ro w F x.disk.blocks [v0]) (h1 : kSl_57.ro w F x.disk.cache [v1]) (h2 : kSl_135.ro w F x.exts [v2]) : kT_43.ro w F x [v0, v1, v2] :=
  ⟨_, _, rfl, ⟨_, _, rfl, h0, h1⟩, h2⟩
theorem kT_43_own {w : World} {S : Bs} {x : DKern} {cs : List Value} (h : kT_43.own w S x cs) : ∃ v0 v1 v2, cs = [v0, v1, v2] ∧ Star [ownA kSl_40 x.disk.blocks [v0], ownA kSl_57 x.disk.cache [v1], ownA kSl_135 x.exts [v2]] w S := by
  obtain ⟨_, _, rfl, a0⟩ := h
  obtain ⟨p0, q0, b0, c0, i0, j0, k0⟩ := star2 a0
  obtain ⟨_, _, rfl, a1⟩ := b0
  obtain ⟨p1, q1, b1, c1, i1, j1, k1⟩ := star2 a1
  obtain ⟨v0, rfl⟩ := osl_one b1
  have g2 := Star.one (c := ownA kSl_40 x.disk.blocks [v0]) b1
  obtain ⟨v1, rfl⟩ := osl_one c1
  have g3 := Star.one (c := ownA kSl_57 x.disk.cache [v1]) c1
  have g4 := g2.app g3 i1 j1 k1
  obtain ⟨v2, rfl⟩ := osl_one c0
  have g5 := Star.one (c := ownA kSl_135 x.exts [v2]) c0
  have g6 := g4.app g5 i0 j0 k0
  exact ⟨v0, v1, v2, rfl, g6⟩
theorem kT_43_op {x : DKern} {cs : List Value} (w : World) (S : Bs) (h : Star [ownA kT_43 x cs] w S) : ∃ g : Value × Value × Value, cs = [g.1, g.2.1, g.2.2] ∧ Star [ownA kSl_40 x.disk.blocks [g.1], ownA kSl_57 x.disk.cache [g.2.1], ownA kSl_135 x.exts [g.2.2]] w S := by
  obtain ⟨v0, v1, v2, h1, h2⟩ := kT_43_own (show kT_43.own w S x cs from h.head (c := ownA kT_43 x cs))
  exact ⟨(v0, v1, v2), h1, h2⟩
theorem kT_43_omk {w : World} {S : Bs} (x : DKern) {v0 : Value} {v1 : Value} {v2 : Value} (h : Star [ownA kSl_40 x.disk.blocks [v0], ownA kSl_57 x.disk.cache [v1], ownA kSl_135 x.exts [v2]] w S) : kT_43.own w S x [v0, v1, v2] := by
  have m2 : Mk kSl_40 x.disk.blocks [v0] [ownA kSl_40 x.disk.blocks [v0]] := mk_leaf
  have m3 : Mk kSl_57 x.disk.cache [v1] [ownA kSl_57 x.disk.cache [v1]] := mk_leaf
  have m4 : Mk (kpair kSl_40 kSl_57) (x.disk.blocks, x.disk.cache) ([v0] ++ [v1]) ([ownA kSl_40 x.disk.blocks [v0]] ++ [ownA kSl_57 x.disk.cache [v1]]) := mk_pair m2 m3
  have m1 : Mk kT_25 x.disk ([v0] ++ [v1]) ([ownA kSl_40 x.disk.blocks [v0]] ++ [ownA kSl_57 x.disk.cache [v1]]) := m4
  have m5 : Mk kSl_135 x.exts [v2] [ownA kSl_135 x.exts [v2]] := mk_leaf
  have m6 : Mk (kpair kT_25 kSl_135) (x.disk, x.exts) (([v0] ++ [v1]) ++ [v2]) (([ownA kSl_40 x.disk.blocks [v0]] ++ [ownA kSl_57 x.disk.cache [v1]]) ++ [ownA kSl_135 x.exts [v2]]) := mk_pair m1 m5
  have m0 : Mk kT_43 x (([v0] ++ [v1]) ++ [v2]) (([ownA kSl_40 x.disk.blocks [v0]] ++ [ownA kSl_57 x.disk.cache [v1]]) ++ [ownA kSl_135 x.exts [v2]]) := m6
  exact m0 w S h
def RA_43 (x : DKern) (r : Value) (l : List Asn) : Prop := ∃ v0 v1 v2, r = .agg #[v0, v1, v2] ∧ l = [ownA kSl_40 x.disk.blocks [v0], ownA kSl_57 x.disk.cache [v1], ownA kSl_135 x.exts [v2]]
theorem zero_43 (w : World) (S : Bs) : kT_43.own w S (⟨(⟨[], []⟩ : DDisk), []⟩ : DKern) [.slice none 0 0, .slice none 0 0, .slice none 0 0] := kT_43_omk (⟨(⟨[], []⟩ : DDisk), []⟩ : DKern) (⟨fun _ => False, fun _ => False, own_nil _ _ none, ⟨fun _ => False, fun _ => False, own_nil _ _ none, ⟨fun _ => False, fun _ => False, own_nil _ _ none, trivial, fun _ h => h.elim, fun _ h => h.elim, fun _ h => h.elim⟩, fun _ h => h.elim, fun _ h => h.elim, fun _ h => h.elim⟩, fun _ h => h.elim, fun _ h => h.elim, fun _ h => h.elim⟩)
def PA_43 (g e s : Nat) (post : List Value) (x : DKern) (r : Value) (l : List Asn) : Prop := ∃ v0 v1 v2, r = .tuple #[] ∧ l = [rowA g e s 1 (v0 :: v1 :: v2 :: post), ownA kSl_40 x.disk.blocks [v0], ownA kSl_57 x.disk.cache [v1], ownA kSl_135 x.exts [v2]]
def kT_45 : Kd RKern := kiso (kpair (kint .i64) (kpair kSl_2 kT_43)) (fun x => (x.code, x.words, x.kern))
theorem sz_45 : (Try.prog.info? 45).map (·.size) = some 5 := by kernel_rfl
theorem z_45 : (Try.prog.info? 45).map (·.zero) = some (some (.agg #[.int .i64 0, .slice none 0 0, .slice none 0 0, .slice none 0 0, .slice none 0 0])) := by kernel_rfl
theorem ag_45 : AggIs Try.prog 45 true := by unfold AggIs; kernel_rfl
theorem bl_45 : BuildOk Try.prog 45 (.agg #[.int .i64 0, .slice none 0 0, .slice none 0 0, .slice none 0 0, .slice none 0 0]) #[(0, 1), (1, 1), (2, 3)] := ⟨by kernel_rfl, by kernel_rfl, fun w => by kernel_rfl⟩
theorem fa_45_0 (ad : Addr) (w : World) : (Instr.fieldAt 45 (.pointer (some ad)) 0).run Try.prog w = .ok (.pointer (some (ad.add 0))) w := by kernel_rfl
theorem fa_45_1 (ad : Addr) (w : World) : (Instr.fieldAt 45 (.pointer (some ad)) 1).run Try.prog w = .ok (.pointer (some (ad.add 1))) w := by kernel_rfl
theorem fa_45_2 (ad : Addr) (w : World) : (Instr.fieldAt 45 (.pointer (some ad)) 2).run Try.prog w = .ok (.pointer (some (ad.add 2))) w := by kernel_rfl
theorem kT_45_ro {w : World} {F : Bs} {x : RKern} {cs : List Value} (h : kT_45.ro w F x cs) : ∃ v1 v2 v3 v4, cs = [.int .i64 x.code, v1, v2, v3, v4] ∧ kSl_2.ro w F x.words [v1] ∧ kSl_40.ro w F x.kern.disk.blocks [v2] ∧ kSl_57.ro w F x.kern.disk.cache [v3] ∧ kSl_135.ro w F x.kern.exts [v4] := by
  obtain ⟨_, _, rfl, ⟨rfl, -⟩, ⟨_, _, rfl, h1, ⟨_, _, rfl, ⟨_, _, rfl, h2, h3⟩, h4⟩⟩⟩ := h
  obtain ⟨v1, rfl⟩ := sl_one h1
  obtain ⟨v2, rfl⟩ := sl_one h2
  obtain ⟨v3, rfl⟩ := sl_one h3
  obtain ⟨v4, rfl⟩ := sl_one h4
  exact ⟨v1, v2, v3, v4, rfl, h1, h2, h3, h4⟩
theorem kT_45_mk {w : World} {F : Bs} (x : RKern) {v1 : Value} {v2 : Value} {v3 : Value} {v4 : Value} (h1 : kSl_2.ro w F x.words [v1]) (h2 : kSl_40.ro w F x.kern.disk.blocks [v2]) (h3 : kSl_57.ro w F x.kern.disk.cache [v3]) (h4 : kSl_135.ro w F x.kern.exts [v4]) : kT_45.ro w F x [.int .i64 x.code, v1, v2, v3, v4] :=
  ⟨_, _, rfl, ⟨rfl, trivial⟩, ⟨_, _, rfl, h1, ⟨_, _, rfl, ⟨_, _, rfl, h2, h3⟩, h4⟩⟩⟩
theorem kT_45_own {w : World} {S : Bs} {x : RKern} {cs : List Value} (h : kT_45.own w S x cs) : ∃ v1 v2 v3 v4, cs = [.int .i64 x.code, v1, v2, v3, v4] ∧ Star [ownA kSl_2 x.words [v1], ownA kSl_40 x.kern.disk.blocks [v2], ownA kSl_57 x.kern.disk.cache [v3], ownA kSl_135 x.kern.exts [v4]] w S := by
  obtain ⟨_, _, rfl, a0⟩ := h
  obtain ⟨p0, q0, b0, c0, i0, j0, k0⟩ := star2 a0
  obtain ⟨rfl, -⟩ := b0
  obtain ⟨_, _, rfl, a1⟩ := c0
  obtain ⟨p1, q1, b1, c1, i1, j1, k1⟩ := star2 a1
  obtain ⟨v1, rfl⟩ := osl_one b1
  have g2 := Star.one (c := ownA kSl_2 x.words [v1]) b1
  obtain ⟨_, _, rfl, a3⟩ := c1
  obtain ⟨p3, q3, b3, c3, i3, j3, k3⟩ := star2 a3
  obtain ⟨_, _, rfl, a4⟩ := b3
  obtain ⟨p4, q4, b4, c4, i4, j4, k4⟩ := star2 a4
  obtain ⟨v2, rfl⟩ := osl_one b4
  have g5 := Star.one (c := ownA kSl_40 x.kern.disk.blocks [v2]) b4
  obtain ⟨v3, rfl⟩ := osl_one c4
  have g6 := Star.one (c := ownA kSl_57 x.kern.disk.cache [v3]) c4
  have g7 := g5.app g6 i4 j4 k4
  obtain ⟨v4, rfl⟩ := osl_one c3
  have g8 := Star.one (c := ownA kSl_135 x.kern.exts [v4]) c3
  have g9 := g7.app g8 i3 j3 k3
  have g10 := g2.app g9 i1 j1 k1
  have g11 := g10.up j0
  exact ⟨v1, v2, v3, v4, rfl, g11⟩
theorem kT_45_op {x : RKern} {cs : List Value} (w : World) (S : Bs) (h : Star [ownA kT_45 x cs] w S) : ∃ g : Value × Value × Value × Value, cs = [.int .i64 x.code, g.1, g.2.1, g.2.2.1, g.2.2.2] ∧ Star [ownA kSl_2 x.words [g.1], ownA kSl_40 x.kern.disk.blocks [g.2.1], ownA kSl_57 x.kern.disk.cache [g.2.2.1], ownA kSl_135 x.kern.exts [g.2.2.2]] w S := by
  obtain ⟨v1, v2, v3, v4, h1, h2⟩ := kT_45_own (show kT_45.own w S x cs from h.head (c := ownA kT_45 x cs))
  exact ⟨(v1, v2, v3, v4), h1, h2⟩
theorem kT_45_omk {w : World} {S : Bs} (x : RKern) {v1 : Value} {v2 : Value} {v3 : Value} {v4 : Value} (h : Star [ownA kSl_2 x.words [v1], ownA kSl_40 x.kern.disk.blocks [v2], ownA kSl_57 x.kern.disk.cache [v3], ownA kSl_135 x.kern.exts [v4]] w S) : kT_45.own w S x [.int .i64 x.code, v1, v2, v3, v4] := by
  have m1 : Mk (kint .i64) x.code [.int .i64 x.code] [] := mk_int
  have m2 : Mk kSl_2 x.words [v1] [ownA kSl_2 x.words [v1]] := mk_leaf
  have m5 : Mk kSl_40 x.kern.disk.blocks [v2] [ownA kSl_40 x.kern.disk.blocks [v2]] := mk_leaf
  have m6 : Mk kSl_57 x.kern.disk.cache [v3] [ownA kSl_57 x.kern.disk.cache [v3]] := mk_leaf
  have m7 : Mk (kpair kSl_40 kSl_57) (x.kern.disk.blocks, x.kern.disk.cache) ([v2] ++ [v3]) ([ownA kSl_40 x.kern.disk.blocks [v2]] ++ [ownA kSl_57 x.kern.disk.cache [v3]]) := mk_pair m5 m6
  have m4 : Mk kT_25 x.kern.disk ([v2] ++ [v3]) ([ownA kSl_40 x.kern.disk.blocks [v2]] ++ [ownA kSl_57 x.kern.disk.cache [v3]]) := m7
  have m8 : Mk kSl_135 x.kern.exts [v4] [ownA kSl_135 x.kern.exts [v4]] := mk_leaf
  have m9 : Mk (kpair kT_25 kSl_135) (x.kern.disk, x.kern.exts) (([v2] ++ [v3]) ++ [v4]) (([ownA kSl_40 x.kern.disk.blocks [v2]] ++ [ownA kSl_57 x.kern.disk.cache [v3]]) ++ [ownA kSl_135 x.kern.exts [v4]]) := mk_pair m4 m8
  have m3 : Mk kT_43 x.kern (([v2] ++ [v3]) ++ [v4]) (([ownA kSl_40 x.kern.disk.blocks [v2]] ++ [ownA kSl_57 x.kern.disk.cache [v3]]) ++ [ownA kSl_135 x.kern.exts [v4]]) := m9
  have m10 : Mk (kpair kSl_2 kT_43) (x.words, x.kern) ([v1] ++ (([v2] ++ [v3]) ++ [v4])) ([ownA kSl_2 x.words [v1]] ++ (([ownA kSl_40 x.kern.disk.blocks [v2]] ++ [ownA kSl_57 x.kern.disk.cache [v3]]) ++ [ownA kSl_135 x.kern.exts [v4]])) := mk_pair m2 m3
  have m11 : Mk (kpair (kint .i64) (kpair kSl_2 kT_43)) (x.code, (x.words, x.kern)) ([.int .i64 x.code] ++ ([v1] ++ (([v2] ++ [v3]) ++ [v4]))) ([] ++ ([ownA kSl_2 x.words [v1]] ++ (([ownA kSl_40 x.kern.disk.blocks [v2]] ++ [ownA kSl_57 x.kern.disk.cache [v3]]) ++ [ownA kSl_135 x.kern.exts [v4]]))) := mk_pair m1 m10
  have m0 : Mk kT_45 x ([.int .i64 x.code] ++ ([v1] ++ (([v2] ++ [v3]) ++ [v4]))) ([] ++ ([ownA kSl_2 x.words [v1]] ++ (([ownA kSl_40 x.kern.disk.blocks [v2]] ++ [ownA kSl_57 x.kern.disk.cache [v3]]) ++ [ownA kSl_135 x.kern.exts [v4]]))) := m11
  exact m0 w S h
def RA_45 (x : RKern) (r : Value) (l : List Asn) : Prop := ∃ v1 v2 v3 v4, r = .agg #[.int .i64 x.code, v1, v2, v3, v4] ∧ l = [ownA kSl_2 x.words [v1], ownA kSl_40 x.kern.disk.blocks [v2], ownA kSl_57 x.kern.disk.cache [v3], ownA kSl_135 x.kern.exts [v4]]
theorem zero_45 (w : World) (S : Bs) : kT_45.own w S (⟨0, [], (⟨(⟨[], []⟩ : DDisk), []⟩ : DKern)⟩ : RKern) [.int .i64 0, .slice none 0 0, .slice none 0 0, .slice none 0 0, .slice none 0 0] := kT_45_omk (⟨0, [], (⟨(⟨[], []⟩ : DDisk), []⟩ : DKern)⟩ : RKern) (⟨fun _ => False, fun _ => False, own_nil _ _ none, ⟨fun _ => False, fun _ => False, own_nil _ _ none, ⟨fun _ => False, fun _ => False, own_nil _ _ none, ⟨fun _ => False, fun _ => False, own_nil _ _ none, trivial, fun _ h => h.elim, fun _ h => h.elim, fun _ h => h.elim⟩, fun _ h => h.elim, fun _ h => h.elim, fun _ h => h.elim⟩, fun _ h => h.elim, fun _ h => h.elim, fun _ h => h.elim⟩, fun _ h => h.elim, fun _ h => h.elim, fun _ h => h.elim⟩)
def PA_45 (g e s : Nat) (post : List Value) (x : RKern) (r : Value) (l : List Asn) : Prop := ∃ v1 v2 v3 v4, r = .tuple #[] ∧ l = [rowA g e s 1 ((.int .i64 x.code) :: v1 :: v2 :: v3 :: v4 :: post), ownA kSl_2 x.words [v1], ownA kSl_40 x.kern.disk.blocks [v2], ownA kSl_57 x.kern.disk.cache [v3], ownA kSl_135 x.kern.exts [v4]]
abbrev kSl_5 : Kd (List UInt8) := kslice 5 1 kbyte
theorem u_49 : Try.prog.underlying 49 = some (.slice 5) := by kernel_rfl
theorem ag_49 : AggIs Try.prog 49 false := by unfold AggIs; kernel_rfl
theorem z_49 : (Try.prog.info? 49).map (·.zero) = some (some (.slice none 0 0)) := by kernel_rfl
theorem sz_49 : (Try.prog.info? 49).map (·.size) = some 1 := by kernel_rfl
theorem inf_5 : (Try.prog.info? 5).map (fun i => (i.size, i.bytes, i.zero)) = some (kbyte.sz, 1, some (.int .u8 0)) := by kernel_rfl
abbrev kSl_4 : Kd (List Bool) := kslice 4 1 kbool
theorem u_51 : Try.prog.underlying 51 = some (.slice 4) := by kernel_rfl
theorem ag_51 : AggIs Try.prog 51 false := by unfold AggIs; kernel_rfl
theorem z_51 : (Try.prog.info? 51).map (·.zero) = some (some (.slice none 0 0)) := by kernel_rfl
theorem sz_51 : (Try.prog.info? 51).map (·.size) = some 1 := by kernel_rfl
theorem inf_4 : (Try.prog.info? 4).map (fun i => (i.size, i.bytes, i.zero)) = some (kbool.sz, 1, some (.bool false)) := by kernel_rfl
def kT_60 : Kd RInts := kiso (kpair (kint .i64) kSl_2) (fun x => (x.code, x.list))
theorem sz_60 : (Try.prog.info? 60).map (·.size) = some 2 := by kernel_rfl
theorem z_60 : (Try.prog.info? 60).map (·.zero) = some (some (.agg #[.int .i64 0, .slice none 0 0])) := by kernel_rfl
theorem ag_60 : AggIs Try.prog 60 true := by unfold AggIs; kernel_rfl
theorem bl_60 : BuildOk Try.prog 60 (.agg #[.int .i64 0, .slice none 0 0]) #[(0, 1), (1, 1)] := ⟨by kernel_rfl, by kernel_rfl, fun w => by kernel_rfl⟩
theorem fa_60_0 (ad : Addr) (w : World) : (Instr.fieldAt 60 (.pointer (some ad)) 0).run Try.prog w = .ok (.pointer (some (ad.add 0))) w := by kernel_rfl
theorem fa_60_1 (ad : Addr) (w : World) : (Instr.fieldAt 60 (.pointer (some ad)) 1).run Try.prog w = .ok (.pointer (some (ad.add 1))) w := by kernel_rfl
theorem kT_60_ro {w : World} {F : Bs} {x : RInts} {cs : List Value} (h : kT_60.ro w F x cs) : ∃ v1, cs = [.int .i64 x.code, v1] ∧ kSl_2.ro w F x.list [v1] := by
  obtain ⟨_, _, rfl, ⟨rfl, -⟩, h1⟩ := h
  obtain ⟨v1, rfl⟩ := sl_one h1
  exact ⟨v1, rfl, h1⟩
theorem kT_60_mk {w : World} {F : Bs} (x : RInts) {v1 : Value} (h1 : kSl_2.ro w F x.list [v1]) : kT_60.ro w F x [.int .i64 x.code, v1] :=
  ⟨_, _, rfl, ⟨rfl, trivial⟩, h1⟩
theorem kT_60_own {w : World} {S : Bs} {x : RInts} {cs : List Value} (h : kT_60.own w S x cs) : ∃ v1, cs = [.int .i64 x.code, v1] ∧ Star [ownA kSl_2 x.list [v1]] w S := by
  obtain ⟨_, _, rfl, a0⟩ := h
  obtain ⟨p0, q0, b0, c0, i0, j0, k0⟩ := star2 a0
  obtain ⟨rfl, -⟩ := b0
  obtain ⟨v1, rfl⟩ := osl_one c0
  have g1 := Star.one (c := ownA kSl_2 x.list [v1]) c0
  have g2 := g1.up j0
  exact ⟨v1, rfl, g2⟩
theorem kT_60_op {x : RInts} {cs : List Value} (w : World) (S : Bs) (h : Star [ownA kT_60 x cs] w S) : ∃ g : Value, cs = [.int .i64 x.code, g] ∧ Star [ownA kSl_2 x.list [g]] w S := by
  obtain ⟨v1, h1, h2⟩ := kT_60_own (show kT_60.own w S x cs from h.head (c := ownA kT_60 x cs))
  exact ⟨(v1), h1, h2⟩
theorem kT_60_omk {w : World} {S : Bs} (x : RInts) {v1 : Value} (h : Star [ownA kSl_2 x.list [v1]] w S) : kT_60.own w S x [.int .i64 x.code, v1] := by
  have m1 : Mk (kint .i64) x.code [.int .i64 x.code] [] := mk_int
  have m2 : Mk kSl_2 x.list [v1] [ownA kSl_2 x.list [v1]] := mk_leaf
  have m3 : Mk (kpair (kint .i64) kSl_2) (x.code, x.list) ([.int .i64 x.code] ++ [v1]) ([] ++ [ownA kSl_2 x.list [v1]]) := mk_pair m1 m2
  have m0 : Mk kT_60 x ([.int .i64 x.code] ++ [v1]) ([] ++ [ownA kSl_2 x.list [v1]]) := m3
  exact m0 w S h
def RA_60 (x : RInts) (r : Value) (l : List Asn) : Prop := ∃ v1, r = .agg #[.int .i64 x.code, v1] ∧ l = [ownA kSl_2 x.list [v1]]
theorem zero_60 (w : World) (S : Bs) : kT_60.own w S (⟨0, []⟩ : RInts) [.int .i64 0, .slice none 0 0] := kT_60_omk (⟨0, []⟩ : RInts) (⟨fun _ => False, fun _ => False, own_nil _ _ none, trivial, fun _ h => h.elim, fun _ h => h.elim, fun _ h => h.elim⟩)
def PA_60 (g e s : Nat) (post : List Value) (x : RInts) (r : Value) (l : List Asn) : Prop := ∃ v1, r = .tuple #[] ∧ l = [rowA g e s 1 ((.int .i64 x.code) :: v1 :: post), ownA kSl_2 x.list [v1]]
def kT_165 : Kd DExt := kiso (kpair (kint .i64) (kpair (kint .i64) (kint .i64))) (fun x => (x.frm, x.cnt, x.key))
theorem sz_165 : (Try.prog.info? 165).map (·.size) = some 3 := by kernel_rfl
theorem z_165 : (Try.prog.info? 165).map (·.zero) = some (some (.agg #[.int .i64 0, .int .i64 0, .int .i64 0])) := by kernel_rfl
theorem ag_165 : AggIs Try.prog 165 true := by unfold AggIs; kernel_rfl
theorem bl_165 : BuildOk Try.prog 165 (.agg #[.int .i64 0, .int .i64 0, .int .i64 0]) #[(0, 1), (1, 1), (2, 1)] := ⟨by kernel_rfl, by kernel_rfl, fun w => by kernel_rfl⟩
theorem fa_165_0 (ad : Addr) (w : World) : (Instr.fieldAt 165 (.pointer (some ad)) 0).run Try.prog w = .ok (.pointer (some (ad.add 0))) w := by kernel_rfl
theorem fa_165_1 (ad : Addr) (w : World) : (Instr.fieldAt 165 (.pointer (some ad)) 1).run Try.prog w = .ok (.pointer (some (ad.add 1))) w := by kernel_rfl
theorem fa_165_2 (ad : Addr) (w : World) : (Instr.fieldAt 165 (.pointer (some ad)) 2).run Try.prog w = .ok (.pointer (some (ad.add 2))) w := by kernel_rfl
theorem ent_gd_165 : Try.prog.eqGuardType Try.prog.depth 165 = false := by kernel_rfl
theorem ent_eq_165 (x y : DExt) (w : World) : (Op.equalIn 10000 165 (.agg #[.int .i64 x.frm, .int .i64 x.cnt, .int .i64 x.key]) (.agg #[.int .i64 y.frm, .int .i64 y.cnt, .int .i64 y.key])).run Try.prog w = .ok (decide (x = y)) w := by
  rw [run_equalIn_struct w 9999 165 _ _ (by kernel_rfl) (by kernel_rfl)]
  rw [show (Try.prog.fieldsOf 165).toList = [(Try.prog.fieldsOf 165)[0]!, (Try.prog.fieldsOf 165)[1]!, (Try.prog.fieldsOf 165)[2]!] by kernel_rfl]
  refine ((eqFs_cons (a := .int .i64 x.frm) (b := .int .i64 y.frm) (by kernel_rfl) (fun w => by kernel_rfl) (fun w => by kernel_rfl) (fun w => run_equalIn_int w 9998 _ .i64 .i64 x.frm y.frm (by kernel_rfl)) (eqFs_cons (a := .int .i64 x.cnt) (b := .int .i64 y.cnt) (by kernel_rfl) (fun w => by kernel_rfl) (fun w => by kernel_rfl) (fun w => run_equalIn_int w 9998 _ .i64 .i64 x.cnt y.cnt (by kernel_rfl)) (eqFs_cons (a := .int .i64 x.key) (b := .int .i64 y.key) (by kernel_rfl) (fun w => by kernel_rfl) (fun w => by kernel_rfl) (fun w => run_equalIn_int w 9998 _ .i64 .i64 x.key y.key (by kernel_rfl)) eqFs_nil))) w).trans ?_
  congr 1; cases x; cases y; simp only [beq_str, beq_int, Bool.and_true, DExt.mk.injEq, Bool.decide_and]
theorem kT_165_ro {w : World} {F : Bs} {x : DExt} {cs : List Value} (h : kT_165.ro w F x cs) : cs = [.int .i64 x.frm, .int .i64 x.cnt, .int .i64 x.key] := by
  obtain ⟨_, _, rfl, ⟨rfl, -⟩, ⟨_, _, rfl, ⟨rfl, -⟩, ⟨rfl, -⟩⟩⟩ := h
  exact rfl
theorem kT_165_mk {w : World} {F : Bs} (x : DExt) : kT_165.ro w F x [.int .i64 x.frm, .int .i64 x.cnt, .int .i64 x.key] :=
  ⟨_, _, rfl, ⟨rfl, trivial⟩, ⟨_, _, rfl, ⟨rfl, trivial⟩, ⟨rfl, trivial⟩⟩⟩
theorem kT_165_own {w : World} {S : Bs} {x : DExt} {cs : List Value} (h : kT_165.own w S x cs) : cs = [.int .i64 x.frm, .int .i64 x.cnt, .int .i64 x.key] ∧ Star [] w S := by
  obtain ⟨_, _, rfl, a0⟩ := h
  obtain ⟨p0, q0, b0, c0, i0, j0, k0⟩ := star2 a0
  obtain ⟨rfl, -⟩ := b0
  obtain ⟨_, _, rfl, a1⟩ := c0
  obtain ⟨p1, q1, b1, c1, i1, j1, k1⟩ := star2 a1
  obtain ⟨rfl, -⟩ := b1
  obtain ⟨rfl, -⟩ := c1
  exact ⟨rfl, trivial⟩
theorem kT_165_op {x : DExt} {cs : List Value} (w : World) (S : Bs) (h : Star [ownA kT_165 x cs] w S) : ∃ g : Unit, cs = [.int .i64 x.frm, .int .i64 x.cnt, .int .i64 x.key] ∧ Star [] w S := by
  obtain ⟨h1, h2⟩ := kT_165_own (show kT_165.own w S x cs from h.head (c := ownA kT_165 x cs))
  exact ⟨(), h1, h2⟩
theorem kT_165_omk {w : World} {S : Bs} (x : DExt) (h : Star [] w S) : kT_165.own w S x [.int .i64 x.frm, .int .i64 x.cnt, .int .i64 x.key] := by
  have m1 : Mk (kint .i64) x.frm [.int .i64 x.frm] [] := mk_int
  have m2 : Mk (kint .i64) x.cnt [.int .i64 x.cnt] [] := mk_int
  have m3 : Mk (kint .i64) x.key [.int .i64 x.key] [] := mk_int
  have m4 : Mk (kpair (kint .i64) (kint .i64)) (x.cnt, x.key) ([.int .i64 x.cnt] ++ [.int .i64 x.key]) ([] ++ []) := mk_pair m2 m3
  have m5 : Mk (kpair (kint .i64) (kpair (kint .i64) (kint .i64))) (x.frm, (x.cnt, x.key)) ([.int .i64 x.frm] ++ ([.int .i64 x.cnt] ++ [.int .i64 x.key])) ([] ++ ([] ++ [])) := mk_pair m1 m4
  have m0 : Mk kT_165 x ([.int .i64 x.frm] ++ ([.int .i64 x.cnt] ++ [.int .i64 x.key])) ([] ++ ([] ++ [])) := m5
  exact m0 w S h
def RA_165 (x : DExt) (r : Value) (l : List Asn) : Prop := r = .agg #[.int .i64 x.frm, .int .i64 x.cnt, .int .i64 x.key] ∧ l = []
theorem zero_165 (w : World) (S : Bs) : kT_165.own w S (⟨0, 0, 0⟩ : DExt) [.int .i64 0, .int .i64 0, .int .i64 0] := kT_165_omk (⟨0, 0, 0⟩ : DExt) (trivial)
def PA_165 (g e s : Nat) (post : List Value) (x : DExt) (r : Value) (l : List Asn) : Prop := r = .tuple #[] ∧ l = [rowA g e s 1 ((.int .i64 x.frm) :: (.int .i64 x.cnt) :: (.int .i64 x.key) :: post)]
abbrev kSl_165 : Kd (List DExt) := kslice 165 24 kT_165
theorem u_67 : Try.prog.underlying 67 = some (.slice 165) := by kernel_rfl
theorem ag_67 : AggIs Try.prog 67 false := by unfold AggIs; kernel_rfl
theorem z_67 : (Try.prog.info? 67).map (·.zero) = some (some (.slice none 0 0)) := by kernel_rfl
theorem sz_67 : (Try.prog.info? 67).map (·.size) = some 1 := by kernel_rfl
theorem inf_165 : (Try.prog.info? 165).map (fun i => (i.size, i.bytes, i.zero)) = some (kT_165.sz, 24, some (.agg #[.int .i64 0, .int .i64 0, .int .i64 0])) := by kernel_rfl
def kT_69 : Kd DKern := kiso (kpair kT_34 kSl_165) (fun x => (x.disk, x.exts))
theorem sz_69 : (Try.prog.info? 69).map (·.size) = some 3 := by kernel_rfl
theorem z_69 : (Try.prog.info? 69).map (·.zero) = some (some (.agg #[.slice none 0 0, .slice none 0 0, .slice none 0 0])) := by kernel_rfl
theorem ag_69 : AggIs Try.prog 69 true := by unfold AggIs; kernel_rfl
theorem bl_69 : BuildOk Try.prog 69 (.agg #[.slice none 0 0, .slice none 0 0, .slice none 0 0]) #[(0, 2), (2, 1)] := ⟨by kernel_rfl, by kernel_rfl, fun w => by kernel_rfl⟩
theorem fa_69_0 (ad : Addr) (w : World) : (Instr.fieldAt 69 (.pointer (some ad)) 0).run Try.prog w = .ok (.pointer (some (ad.add 0))) w := by kernel_rfl
theorem fa_69_1 (ad : Addr) (w : World) : (Instr.fieldAt 69 (.pointer (some ad)) 1).run Try.prog w = .ok (.pointer (some (ad.add 2))) w := by kernel_rfl
theorem kT_69_ro {w : World} {F : Bs} {x : DKern} {cs : List Value} (h : kT_69.ro w F x cs) : ∃ v0 v1 v2, cs = [v0, v1, v2] ∧ kSl_40.ro w F x.disk.blocks [v0] ∧ kSl_152.ro w F x.disk.cache [v1] ∧ kSl_165.ro w F x.exts [v2] := by
  obtain ⟨_, _, rfl, ⟨_, _, rfl, h0, h1⟩, h2⟩ := h
  obtain ⟨v0, rfl⟩ := sl_one h0
  obtain ⟨v1, rfl⟩ := sl_one h1
  obtain ⟨v2, rfl⟩ := sl_one h2
  exact ⟨v0, v1, v2, rfl, h0, h1, h2⟩
theorem kT_69_mk {w : World} {F : Bs} (x : DKern) {v0 : Value} {v1 : Value} {v2 : Value} (h0 : kSl_40.ro w F x.disk.blocks [v0]) (h1 : kSl_152.ro w F x.disk.cache [v1]) (h2 : kSl_165.ro w F x.exts [v2]) : kT_69.ro w F x [v0, v1, v2] :=
  ⟨_, _, rfl, ⟨_, _, rfl, h0, h1⟩, h2⟩
theorem kT_69_own {w : World} {S : Bs} {x : DKern} {cs : List Value} (h : kT_69.own w S x cs) : ∃ v0 v1 v2, cs = [v0, v1, v2] ∧ Star [ownA kSl_40 x.disk.blocks [v0], ownA kSl_152 x.disk.cache [v1], ownA kSl_165 x.exts [v2]] w S := by
  obtain ⟨_, _, rfl, a0⟩ := h
  obtain ⟨p0, q0, b0, c0, i0, j0, k0⟩ := star2 a0
  obtain ⟨_, _, rfl, a1⟩ := b0
  obtain ⟨p1, q1, b1, c1, i1, j1, k1⟩ := star2 a1
  obtain ⟨v0, rfl⟩ := osl_one b1
  have g2 := Star.one (c := ownA kSl_40 x.disk.blocks [v0]) b1
  obtain ⟨v1, rfl⟩ := osl_one c1
  have g3 := Star.one (c := ownA kSl_152 x.disk.cache [v1]) c1
  have g4 := g2.app g3 i1 j1 k1
  obtain ⟨v2, rfl⟩ := osl_one c0
  have g5 := Star.one (c := ownA kSl_165 x.exts [v2]) c0
  have g6 := g4.app g5 i0 j0 k0
  exact ⟨v0, v1, v2, rfl, g6⟩
theorem kT_69_op {x : DKern} {cs : List Value} (w : World) (S : Bs) (h : Star [ownA kT_69 x cs] w S) : ∃ g : Value × Value × Value, cs = [g.1, g.2.1, g.2.2] ∧ Star [ownA kSl_40 x.disk.blocks [g.1], ownA kSl_152 x.disk.cache [g.2.1], ownA kSl_165 x.exts [g.2.2]] w S := by
  obtain ⟨v0, v1, v2, h1, h2⟩ := kT_69_own (show kT_69.own w S x cs from h.head (c := ownA kT_69 x cs))
  exact ⟨(v0, v1, v2), h1, h2⟩
theorem kT_69_omk {w : World} {S : Bs} (x : DKern) {v0 : Value} {v1 : Value} {v2 : Value} (h : Star [ownA kSl_40 x.disk.blocks [v0], ownA kSl_152 x.disk.cache [v1], ownA kSl_165 x.exts [v2]] w S) : kT_69.own w S x [v0, v1, v2] := by
  have m2 : Mk kSl_40 x.disk.blocks [v0] [ownA kSl_40 x.disk.blocks [v0]] := mk_leaf
  have m3 : Mk kSl_152 x.disk.cache [v1] [ownA kSl_152 x.disk.cache [v1]] := mk_leaf
  have m4 : Mk (kpair kSl_40 kSl_152) (x.disk.blocks, x.disk.cache) ([v0] ++ [v1]) ([ownA kSl_40 x.disk.blocks [v0]] ++ [ownA kSl_152 x.disk.cache [v1]]) := mk_pair m2 m3
  have m1 : Mk kT_34 x.disk ([v0] ++ [v1]) ([ownA kSl_40 x.disk.blocks [v0]] ++ [ownA kSl_152 x.disk.cache [v1]]) := m4
  have m5 : Mk kSl_165 x.exts [v2] [ownA kSl_165 x.exts [v2]] := mk_leaf
  have m6 : Mk (kpair kT_34 kSl_165) (x.disk, x.exts) (([v0] ++ [v1]) ++ [v2]) (([ownA kSl_40 x.disk.blocks [v0]] ++ [ownA kSl_152 x.disk.cache [v1]]) ++ [ownA kSl_165 x.exts [v2]]) := mk_pair m1 m5
  have m0 : Mk kT_69 x (([v0] ++ [v1]) ++ [v2]) (([ownA kSl_40 x.disk.blocks [v0]] ++ [ownA kSl_152 x.disk.cache [v1]]) ++ [ownA kSl_165 x.exts [v2]]) := m6
  exact m0 w S h
def RA_69 (x : DKern) (r : Value) (l : List Asn) : Prop := ∃ v0 v1 v2, r = .agg #[v0, v1, v2] ∧ l = [ownA kSl_40 x.disk.blocks [v0], ownA kSl_152 x.disk.cache [v1], ownA kSl_165 x.exts [v2]]
theorem zero_69 (w : World) (S : Bs) : kT_69.own w S (⟨(⟨[], []⟩ : DDisk), []⟩ : DKern) [.slice none 0 0, .slice none 0 0, .slice none 0 0] := kT_69_omk (⟨(⟨[], []⟩ : DDisk), []⟩ : DKern) (⟨fun _ => False, fun _ => False, own_nil _ _ none, ⟨fun _ => False, fun _ => False, own_nil _ _ none, ⟨fun _ => False, fun _ => False, own_nil _ _ none, trivial, fun _ h => h.elim, fun _ h => h.elim, fun _ h => h.elim⟩, fun _ h => h.elim, fun _ h => h.elim, fun _ h => h.elim⟩, fun _ h => h.elim, fun _ h => h.elim, fun _ h => h.elim⟩)
def PA_69 (g e s : Nat) (post : List Value) (x : DKern) (r : Value) (l : List Asn) : Prop := ∃ v0 v1 v2, r = .tuple #[] ∧ l = [rowA g e s 1 (v0 :: v1 :: v2 :: post), ownA kSl_40 x.disk.blocks [v0], ownA kSl_152 x.disk.cache [v1], ownA kSl_165 x.exts [v2]]
def kT_76 : Kd RInt := kiso (kpair (kint .i64) (kint .i64)) (fun x => (x.code, x.val))
theorem sz_76 : (Try.prog.info? 76).map (·.size) = some 2 := by kernel_rfl
theorem z_76 : (Try.prog.info? 76).map (·.zero) = some (some (.agg #[.int .i64 0, .int .i64 0])) := by kernel_rfl
theorem ag_76 : AggIs Try.prog 76 true := by unfold AggIs; kernel_rfl
theorem bl_76 : BuildOk Try.prog 76 (.agg #[.int .i64 0, .int .i64 0]) #[(0, 1), (1, 1)] := ⟨by kernel_rfl, by kernel_rfl, fun w => by kernel_rfl⟩
theorem fa_76_0 (ad : Addr) (w : World) : (Instr.fieldAt 76 (.pointer (some ad)) 0).run Try.prog w = .ok (.pointer (some (ad.add 0))) w := by kernel_rfl
theorem fa_76_1 (ad : Addr) (w : World) : (Instr.fieldAt 76 (.pointer (some ad)) 1).run Try.prog w = .ok (.pointer (some (ad.add 1))) w := by kernel_rfl
theorem ent_gd_76 : Try.prog.eqGuardType Try.prog.depth 76 = false := by kernel_rfl
theorem ent_eq_76 (x y : RInt) (w : World) : (Op.equalIn 10000 76 (.agg #[.int .i64 x.code, .int .i64 x.val]) (.agg #[.int .i64 y.code, .int .i64 y.val])).run Try.prog w = .ok (decide (x = y)) w := by
  rw [run_equalIn_struct w 9999 76 _ _ (by kernel_rfl) (by kernel_rfl)]
  rw [show (Try.prog.fieldsOf 76).toList = [(Try.prog.fieldsOf 76)[0]!, (Try.prog.fieldsOf 76)[1]!] by kernel_rfl]
  refine ((eqFs_cons (a := .int .i64 x.code) (b := .int .i64 y.code) (by kernel_rfl) (fun w => by kernel_rfl) (fun w => by kernel_rfl) (fun w => run_equalIn_int w 9998 _ .i64 .i64 x.code y.code (by kernel_rfl)) (eqFs_cons (a := .int .i64 x.val) (b := .int .i64 y.val) (by kernel_rfl) (fun w => by kernel_rfl) (fun w => by kernel_rfl) (fun w => run_equalIn_int w 9998 _ .i64 .i64 x.val y.val (by kernel_rfl)) eqFs_nil)) w).trans ?_
  congr 1; cases x; cases y; simp only [beq_str, beq_int, Bool.and_true, RInt.mk.injEq, Bool.decide_and]
theorem kT_76_ro {w : World} {F : Bs} {x : RInt} {cs : List Value} (h : kT_76.ro w F x cs) : cs = [.int .i64 x.code, .int .i64 x.val] := by
  obtain ⟨_, _, rfl, ⟨rfl, -⟩, ⟨rfl, -⟩⟩ := h
  exact rfl
theorem kT_76_mk {w : World} {F : Bs} (x : RInt) : kT_76.ro w F x [.int .i64 x.code, .int .i64 x.val] :=
  ⟨_, _, rfl, ⟨rfl, trivial⟩, ⟨rfl, trivial⟩⟩
theorem kT_76_own {w : World} {S : Bs} {x : RInt} {cs : List Value} (h : kT_76.own w S x cs) : cs = [.int .i64 x.code, .int .i64 x.val] ∧ Star [] w S := by
  obtain ⟨_, _, rfl, a0⟩ := h
  obtain ⟨p0, q0, b0, c0, i0, j0, k0⟩ := star2 a0
  obtain ⟨rfl, -⟩ := b0
  obtain ⟨rfl, -⟩ := c0
  exact ⟨rfl, trivial⟩
theorem kT_76_op {x : RInt} {cs : List Value} (w : World) (S : Bs) (h : Star [ownA kT_76 x cs] w S) : ∃ g : Unit, cs = [.int .i64 x.code, .int .i64 x.val] ∧ Star [] w S := by
  obtain ⟨h1, h2⟩ := kT_76_own (show kT_76.own w S x cs from h.head (c := ownA kT_76 x cs))
  exact ⟨(), h1, h2⟩
theorem kT_76_omk {w : World} {S : Bs} (x : RInt) (h : Star [] w S) : kT_76.own w S x [.int .i64 x.code, .int .i64 x.val] := by
  have m1 : Mk (kint .i64) x.code [.int .i64 x.code] [] := mk_int
  have m2 : Mk (kint .i64) x.val [.int .i64 x.val] [] := mk_int
  have m3 : Mk (kpair (kint .i64) (kint .i64)) (x.code, x.val) ([.int .i64 x.code] ++ [.int .i64 x.val]) ([] ++ []) := mk_pair m1 m2
  have m0 : Mk kT_76 x ([.int .i64 x.code] ++ [.int .i64 x.val]) ([] ++ []) := m3
  exact m0 w S h
def RA_76 (x : RInt) (r : Value) (l : List Asn) : Prop := r = .agg #[.int .i64 x.code, .int .i64 x.val] ∧ l = []
theorem zero_76 (w : World) (S : Bs) : kT_76.own w S (⟨0, 0⟩ : RInt) [.int .i64 0, .int .i64 0] := kT_76_omk (⟨0, 0⟩ : RInt) (trivial)
def PA_76 (g e s : Nat) (post : List Value) (x : RInt) (r : Value) (l : List Asn) : Prop := r = .tuple #[] ∧ l = [rowA g e s 1 ((.int .i64 x.code) :: (.int .i64 x.val) :: post)]
def kT_157 : Kd DSrc := kiso (kpair kSl_5 (kint .i64)) (fun x => (x.code, x.at_))
theorem sz_157 : (Try.prog.info? 157).map (·.size) = some 2 := by kernel_rfl
theorem z_157 : (Try.prog.info? 157).map (·.zero) = some (some (.agg #[.slice none 0 0, .int .i64 0])) := by kernel_rfl
theorem ag_157 : AggIs Try.prog 157 true := by unfold AggIs; kernel_rfl
theorem bl_157 : BuildOk Try.prog 157 (.agg #[.slice none 0 0, .int .i64 0]) #[(0, 1), (1, 1)] := ⟨by kernel_rfl, by kernel_rfl, fun w => by kernel_rfl⟩
theorem fa_157_0 (ad : Addr) (w : World) : (Instr.fieldAt 157 (.pointer (some ad)) 0).run Try.prog w = .ok (.pointer (some (ad.add 0))) w := by kernel_rfl
theorem fa_157_1 (ad : Addr) (w : World) : (Instr.fieldAt 157 (.pointer (some ad)) 1).run Try.prog w = .ok (.pointer (some (ad.add 1))) w := by kernel_rfl
theorem kT_157_ro {w : World} {F : Bs} {x : DSrc} {cs : List Value} (h : kT_157.ro w F x cs) : ∃ v0, cs = [v0, .int .i64 x.at_] ∧ kSl_5.ro w F x.code [v0] := by
  obtain ⟨_, _, rfl, h0, ⟨rfl, -⟩⟩ := h
  obtain ⟨v0, rfl⟩ := sl_one h0
  exact ⟨v0, rfl, h0⟩
theorem kT_157_mk {w : World} {F : Bs} (x : DSrc) {v0 : Value} (h0 : kSl_5.ro w F x.code [v0]) : kT_157.ro w F x [v0, .int .i64 x.at_] :=
  ⟨_, _, rfl, h0, ⟨rfl, trivial⟩⟩
theorem kT_157_own {w : World} {S : Bs} {x : DSrc} {cs : List Value} (h : kT_157.own w S x cs) : ∃ v0, cs = [v0, .int .i64 x.at_] ∧ Star [ownA kSl_5 x.code [v0]] w S := by
  obtain ⟨_, _, rfl, a0⟩ := h
  obtain ⟨p0, q0, b0, c0, i0, j0, k0⟩ := star2 a0
  obtain ⟨v0, rfl⟩ := osl_one b0
  have g1 := Star.one (c := ownA kSl_5 x.code [v0]) b0
  obtain ⟨rfl, -⟩ := c0
  have g2 := g1.up i0
  exact ⟨v0, rfl, g2⟩
theorem kT_157_op {x : DSrc} {cs : List Value} (w : World) (S : Bs) (h : Star [ownA kT_157 x cs] w S) : ∃ g : Value, cs = [g, .int .i64 x.at_] ∧ Star [ownA kSl_5 x.code [g]] w S := by
  obtain ⟨v0, h1, h2⟩ := kT_157_own (show kT_157.own w S x cs from h.head (c := ownA kT_157 x cs))
  exact ⟨(v0), h1, h2⟩
theorem kT_157_omk {w : World} {S : Bs} (x : DSrc) {v0 : Value} (h : Star [ownA kSl_5 x.code [v0]] w S) : kT_157.own w S x [v0, .int .i64 x.at_] := by
  have m1 : Mk kSl_5 x.code [v0] [ownA kSl_5 x.code [v0]] := mk_leaf
  have m2 : Mk (kint .i64) x.at_ [.int .i64 x.at_] [] := mk_int
  have m3 : Mk (kpair kSl_5 (kint .i64)) (x.code, x.at_) ([v0] ++ [.int .i64 x.at_]) ([ownA kSl_5 x.code [v0]] ++ []) := mk_pair m1 m2
  have m0 : Mk kT_157 x ([v0] ++ [.int .i64 x.at_]) ([ownA kSl_5 x.code [v0]] ++ []) := m3
  exact m0 w S h
def RA_157 (x : DSrc) (r : Value) (l : List Asn) : Prop := ∃ v0, r = .agg #[v0, .int .i64 x.at_] ∧ l = [ownA kSl_5 x.code [v0]]
theorem zero_157 (w : World) (S : Bs) : kT_157.own w S (⟨[], 0⟩ : DSrc) [.slice none 0 0, .int .i64 0] := kT_157_omk (⟨[], 0⟩ : DSrc) (⟨fun _ => False, fun _ => False, own_nil _ _ none, trivial, fun _ h => h.elim, fun _ h => h.elim, fun _ h => h.elim⟩)
def PA_157 (g e s : Nat) (post : List Value) (x : DSrc) (r : Value) (l : List Asn) : Prop := ∃ v0, r = .tuple #[] ∧ l = [rowA g e s 1 (v0 :: (.int .i64 x.at_) :: post), ownA kSl_5 x.code [v0]]
end Go.Proofs.Ytkmcpcahbfdohaa

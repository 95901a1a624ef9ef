/- What is proved: the kinds of this program's types, laid open and put together; facts on its types. No condition. -/
import Derived.Test.YtbfcpfmhmhklnaaDoorProg
import Derived.Test.YtbfcpfmhmhklnaaDoorBase0
import Derived.Test.YtbfcpfmhmhklnaaDoorBase1
namespace Go.Proofs.YtbfcpfmhmhklnaaDoor
open Go Go.RowKit
set_option maxRecDepth 100000
set_option linter.unusedVariables false
set_option linter.unusedSimpArgs false
theorem u_2 : Tryd.prog.underlying 2 = some (.int .i64) := by kernel_rfl
theorem sz_2 : (Tryd.prog.info? 2).map (·.size) = some 1 := by kernel_rfl
theorem z_2 : (Tryd.prog.info? 2).map (·.zero) = some (some (.int .i64 0)) := by kernel_rfl
theorem ag_2 : AggIs Tryd.prog 2 false := by unfold AggIs; kernel_rfl
theorem u_3 : Tryd.prog.underlying 3 = some (.int .i64) := by kernel_rfl
theorem sz_3 : (Tryd.prog.info? 3).map (·.size) = some 1 := by kernel_rfl
theorem z_3 : (Tryd.prog.info? 3).map (·.zero) = some (some (.int .i64 0)) := by kernel_rfl
theorem ag_3 : AggIs Tryd.prog 3 false := by unfold AggIs; kernel_rfl
theorem u_4 : Tryd.prog.underlying 4 = some .bool := by kernel_rfl
theorem sz_4 : (Tryd.prog.info? 4).map (·.size) = some 1 := by kernel_rfl
theorem z_4 : (Tryd.prog.info? 4).map (·.zero) = some (some (.bool false)) := by kernel_rfl
theorem ag_4 : AggIs Tryd.prog 4 false := by unfold AggIs; kernel_rfl
theorem u_5 : Tryd.prog.underlying 5 = some (.int .u8) := by kernel_rfl
theorem sz_5 : (Tryd.prog.info? 5).map (·.size) = some 1 := by kernel_rfl
theorem z_5 : (Tryd.prog.info? 5).map (·.zero) = some (some (.int .u8 0)) := by kernel_rfl
theorem ag_5 : AggIs Tryd.prog 5 false := by unfold AggIs; kernel_rfl
theorem u_9 : Tryd.prog.underlying 9 = some .string := by kernel_rfl
theorem sz_9 : (Tryd.prog.info? 9).map (·.size) = some 1 := by kernel_rfl
theorem z_9 : (Tryd.prog.info? 9).map (·.zero) = some (some (.string ⟨#[]⟩)) := by kernel_rfl
theorem ag_9 : AggIs Tryd.prog 9 false := by unfold AggIs; kernel_rfl
theorem u_21 : Tryd.prog.underlying 21 = some (.int .i32) := by kernel_rfl
theorem sz_21 : (Tryd.prog.info? 21).map (·.size) = some 1 := by kernel_rfl
theorem z_21 : (Tryd.prog.info? 21).map (·.zero) = some (some (.int .i32 0)) := by kernel_rfl
theorem ag_21 : AggIs Tryd.prog 21 false := by unfold AggIs; kernel_rfl
def kT_24 : Kd RText := kiso (kpair (kint .i64) kstr) (fun x => (x.code, x.text))
theorem sz_24 : (Tryd.prog.info? 24).map (·.size) = some 2 := by kernel_rfl
theorem z_24 : (Tryd.prog.info? 24).map (·.zero) = some (some (.agg #[.int .i64 0, .string ⟨#[]⟩])) := by kernel_rfl
theorem ag_24 : AggIs Tryd.prog 24 true := by unfold AggIs; kernel_rfl
theorem bl_24 : BuildOk Tryd.prog 24 (.agg #[.int .i64 0, .string ⟨#[]⟩]) #[(0, 1), (1, 1)] := ⟨by kernel_rfl, by kernel_rfl, fun w => by kernel_rfl⟩
theorem fa_24_0 (ad : Addr) (w : World) : (Instr.fieldAt 24 (.pointer (some ad)) 0).run Tryd.prog w = .ok (.pointer (some (ad.add 0))) w := by kernel_rfl
theorem fa_24_1 (ad : Addr) (w : World) : (Instr.fieldAt 24 (.pointer (some ad)) 1).run Tryd.prog w = .ok (.pointer (some (ad.add 1))) w := by kernel_rfl
theorem ent_gd_24 : Tryd.prog.eqGuardType Tryd.prog.depth 24 = false := by kernel_rfl
theorem ent_eq_24 (x y : RText) (w : World) : (Op.equalIn 10000 24 (.agg #[.int .i64 x.code, .string x.text]) (.agg #[.int .i64 y.code, .string y.text])).run Tryd.prog w = .ok (decide (x = y)) w := by
  rw [run_equalIn_struct w 9999 24 _ _ (by kernel_rfl) (by kernel_rfl)]
  rw [show (Tryd.prog.fieldsOf 24).toList = [(Tryd.prog.fieldsOf 24)[0]!, (Tryd.prog.fieldsOf 24)[1]!] by kernel_rfl]
  refine ((eqFs_cons (a := .int .i64 x.code) (b := .int .i64 y.code) (by kernel_rfl) (fun w => by kernel_rfl) (fun w => by kernel_rfl) (fun w => run_equalIn_int w 9998 _ .i64 .i64 x.code y.code (by kernel_rfl)) (eqFs_cons (a := .string x.text) (b := .string y.text) (by kernel_rfl) (fun w => by kernel_rfl) (fun w => by kernel_rfl) (fun w => run_equalIn_string w 9998 _ x.text y.text (by kernel_rfl)) eqFs_nil)) w).trans ?_
  congr 1; cases x; cases y; simp only [beq_str, beq_int, Bool.and_true, RText.mk.injEq, Bool.decide_and]
theorem kT_24_ro {w : World} {F : Bs} {x : RText} {cs : List Value} (h : kT_24.ro w F x cs) : cs = [.int .i64 x.code, .string x.text] ∧ x.text.size ≤ 140737488351232 := by
  obtain ⟨_, _, rfl, ⟨rfl, -⟩, ⟨rfl, s1⟩⟩ := h
  exact ⟨rfl, s1⟩
theorem kT_24_mk {w : World} {F : Bs} (x : RText) (s1 : x.text.size ≤ 140737488351232) : kT_24.ro w F x [.int .i64 x.code, .string x.text] :=
  ⟨_, _, rfl, ⟨rfl, trivial⟩, ⟨rfl, s1⟩⟩
theorem kT_24_own {w : World} {S : Bs} {x : RText} {cs : List Value} (h : kT_24.own w S x cs) : cs = [.int .i64 x.code, .string x.text] ∧ Star [] w S ∧ x.text.size ≤ 140737488351232 := by
  obtain ⟨_, _, rfl, a0⟩ := h
  obtain ⟨p0, q0, b0, c0, i0, j0, k0⟩ := star2 a0
  obtain ⟨rfl, -⟩ := b0
  obtain ⟨rfl, s1⟩ := c0
  exact ⟨rfl, trivial, s1⟩
theorem kT_24_op {x : RText} {cs : List Value} (w : World) (S : Bs) (h : Star [ownA kT_24 x cs] w S) : ∃ g : Unit, (cs = [.int .i64 x.code, .string x.text] ∧ x.text.size ≤ 140737488351232) ∧ Star [] w S := by
  obtain ⟨h1, h2, s1⟩ := kT_24_own (show kT_24.own w S x cs from h.head (c := ownA kT_24 x cs))
  exact ⟨(), ⟨h1, s1⟩, h2⟩
theorem kT_24_omk {w : World} {S : Bs} (x : RText) (h : Star [] w S) (s1 : x.text.size ≤ 140737488351232) : kT_24.own w S x [.int .i64 x.code, .string x.text] := by
  have m1 : Mk (kint .i64) x.code [.int .i64 x.code] [] := mk_int
  have m2 : Mk kstr x.text [.string x.text] [] := (mk_str s1)
  have m3 : Mk (kpair (kint .i64) kstr) (x.code, x.text) ([.int .i64 x.code] ++ [.string x.text]) ([] ++ []) := mk_pair m1 m2
  have m0 : Mk kT_24 x ([.int .i64 x.code] ++ [.string x.text]) ([] ++ []) := m3
  exact m0 w S h
def RA_24 (x : RText) (r : Value) (l : List Asn) : Prop := r = .agg #[.int .i64 x.code, .string x.text] ∧ l = [] ∧ x.text.size ≤ 140737488351232
theorem zero_24 (w : World) (S : Bs) : kT_24.own w S (⟨0, ⟨#[]⟩⟩ : RText) [.int .i64 0, .string ⟨#[]⟩] := kT_24_omk (⟨0, ⟨#[]⟩⟩ : RText) (trivial) (by decide)
def PA_24 (g e s : Nat) (post : List Value) (x : RText) (r : Value) (l : List Asn) : Prop := r = .tuple #[] ∧ l = [rowA g e s 1 ((.int .i64 x.code) :: (.string x.text) :: post)] ∧ x.text.size ≤ 140737488351232
abbrev kSl_9 : Kd (List ByteArray) := kslice 9 16 kstr
theorem u_28 : Tryd.prog.underlying 28 = some (.slice 9) := by kernel_rfl
theorem ag_28 : AggIs Tryd.prog 28 false := by unfold AggIs; kernel_rfl
theorem z_28 : (Tryd.prog.info? 28).map (·.zero) = some (some (.slice none 0 0)) := by kernel_rfl
theorem sz_28 : (Tryd.prog.info? 28).map (·.size) = some 1 := by kernel_rfl
theorem inf_9 : (Tryd.prog.info? 9).map (fun i => (i.size, i.bytes, i.zero)) = some (kstr.sz, 16, some (.string ⟨#[]⟩)) := by kernel_rfl
def kT_30 : Kd RNames := kiso (kpair (kint .i64) kSl_9) (fun x => (x.code, x.names))
theorem sz_30 : (Tryd.prog.info? 30).map (·.size) = some 2 := by kernel_rfl
theorem z_30 : (Tryd.prog.info? 30).map (·.zero) = some (some (.agg #[.int .i64 0, .slice none 0 0])) := by kernel_rfl
theorem ag_30 : AggIs Tryd.prog 30 true := by unfold AggIs; kernel_rfl
theorem bl_30 : BuildOk Tryd.prog 30 (.agg #[.int .i64 0, .slice none 0 0]) #[(0, 1), (1, 1)] := ⟨by kernel_rfl, by kernel_rfl, fun w => by kernel_rfl⟩
theorem fa_30_0 (ad : Addr) (w : World) : (Instr.fieldAt 30 (.pointer (some ad)) 0).run Tryd.prog w = .ok (.pointer (some (ad.add 0))) w := by kernel_rfl
theorem fa_30_1 (ad : Addr) (w : World) : (Instr.fieldAt 30 (.pointer (some ad)) 1).run Tryd.prog w = .ok (.pointer (some (ad.add 1))) w := by kernel_rfl
theorem kT_30_ro {w : World} {F : Bs} {x : RNames} {cs : List Value} (h : kT_30.ro w F x cs) : ∃ v1, cs = [.int .i64 x.code, v1] ∧ kSl_9.ro w F x.names [v1] := by
  obtain ⟨_, _, rfl, ⟨rfl, -⟩, h1⟩ := h
  obtain ⟨v1, rfl⟩ := sl_one h1
  exact ⟨v1, rfl, h1⟩
theorem kT_30_mk {w : World} {F : Bs} (x : RNames) {v1 : Value} (h1 : kSl_9.ro w F x.names [v1]) : kT_30.ro w F x [.int .i64 x.code, v1] :=
  ⟨_, _, rfl, ⟨rfl, trivial⟩, h1⟩
theorem kT_30_own {w : World} {S : Bs} {x : RNames} {cs : List Value} (h : kT_30.own w S x cs) : ∃ v1, cs = [.int .i64 x.code, v1] ∧ Star [ownA kSl_9 x.names [v1]] w S := by
  obtain ⟨_, _, rfl, a0⟩ := h
  obtain ⟨p0, q0, b0, c0, i0, j0, k0⟩ := star2 a0
  obtain ⟨rfl, -⟩ := b0
  obtain ⟨v1, rfl⟩ := osl_one c0
  have g1 := Star.one (c := ownA kSl_9 x.names [v1]) c0
  have g2 := g1.up j0
  exact ⟨v1, rfl, g2⟩
theorem kT_30_op {x : RNames} {cs : List Value} (w : World) (S : Bs) (h : Star [ownA kT_30 x cs] w S) : ∃ g : Value, cs = [.int .i64 x.code, g] ∧ Star [ownA kSl_9 x.names [g]] w S := by
  obtain ⟨v1, h1, h2⟩ := kT_30_own (show kT_30.own w S x cs from h.head (c := ownA kT_30 x cs))
  exact ⟨(v1), h1, h2⟩
theorem kT_30_omk {w : World} {S : Bs} (x : RNames) {v1 : Value} (h : Star [ownA kSl_9 x.names [v1]] w S) : kT_30.own w S x [.int .i64 x.code, v1] := by
  have m1 : Mk (kint .i64) x.code [.int .i64 x.code] [] := mk_int
  have m2 : Mk kSl_9 x.names [v1] [ownA kSl_9 x.names [v1]] := mk_leaf
  have m3 : Mk (kpair (kint .i64) kSl_9) (x.code, x.names) ([.int .i64 x.code] ++ [v1]) ([] ++ [ownA kSl_9 x.names [v1]]) := mk_pair m1 m2
  have m0 : Mk kT_30 x ([.int .i64 x.code] ++ [v1]) ([] ++ [ownA kSl_9 x.names [v1]]) := m3
  exact m0 w S h
def RA_30 (x : RNames) (r : Value) (l : List Asn) : Prop := ∃ v1, r = .agg #[.int .i64 x.code, v1] ∧ l = [ownA kSl_9 x.names [v1]]
theorem zero_30 (w : World) (S : Bs) : kT_30.own w S (⟨0, []⟩ : RNames) [.int .i64 0, .slice none 0 0] := kT_30_omk (⟨0, []⟩ : RNames) (⟨fun _ => False, fun _ => False, own_nil _ _ none, trivial, fun _ h => h.elim, fun _ h => h.elim, fun _ h => h.elim⟩)
def PA_30 (g e s : Nat) (post : List Value) (x : RNames) (r : Value) (l : List Asn) : Prop := ∃ v1, r = .tuple #[] ∧ l = [rowA g e s 1 ((.int .i64 x.code) :: v1 :: post), ownA kSl_9 x.names [v1]]
abbrev kSl_5 : Kd (List UInt8) := kslice 5 1 kbyte
theorem u_34 : Tryd.prog.underlying 34 = some (.slice 5) := by kernel_rfl
theorem ag_34 : AggIs Tryd.prog 34 false := by unfold AggIs; kernel_rfl
theorem z_34 : (Tryd.prog.info? 34).map (·.zero) = some (some (.slice none 0 0)) := by kernel_rfl
theorem sz_34 : (Tryd.prog.info? 34).map (·.size) = some 1 := by kernel_rfl
theorem inf_5 : (Tryd.prog.info? 5).map (fun i => (i.size, i.bytes, i.zero)) = some (kbyte.sz, 1, some (.int .u8 0)) := by kernel_rfl
def kT_57 : Kd DSrc := kiso (kpair kSl_5 (kint .i64)) (fun x => (x.code, x.at_))
theorem sz_57 : (Tryd.prog.info? 57).map (·.size) = some 2 := by kernel_rfl
theorem z_57 : (Tryd.prog.info? 57).map (·.zero) = some (some (.agg #[.slice none 0 0, .int .i64 0])) := by kernel_rfl
theorem ag_57 : AggIs Tryd.prog 57 true := by unfold AggIs; kernel_rfl
theorem bl_57 : BuildOk Tryd.prog 57 (.agg #[.slice none 0 0, .int .i64 0]) #[(0, 1), (1, 1)] := ⟨by kernel_rfl, by kernel_rfl, fun w => by kernel_rfl⟩
theorem fa_57_0 (ad : Addr) (w : World) : (Instr.fieldAt 57 (.pointer (some ad)) 0).run Tryd.prog w = .ok (.pointer (some (ad.add 0))) w := by kernel_rfl
theorem fa_57_1 (ad : Addr) (w : World) : (Instr.fieldAt 57 (.pointer (some ad)) 1).run Tryd.prog w = .ok (.pointer (some (ad.add 1))) w := by kernel_rfl
theorem kT_57_ro {w : World} {F : Bs} {x : DSrc} {cs : List Value} (h : kT_57.ro w F x cs) : ∃ v0, cs = [v0, .int .i64 x.at_] ∧ kSl_5.ro w F x.code [v0] := by
  obtain ⟨_, _, rfl, h0, ⟨rfl, -⟩⟩ := h
  obtain ⟨v0, rfl⟩ := sl_one h0
  exact ⟨v0, rfl, h0⟩
theorem kT_57_mk {w : World} {F : Bs} (x : DSrc) {v0 : Value} (h0 : kSl_5.ro w F x.code [v0]) : kT_57.ro w F x [v0, .int .i64 x.at_] :=
  ⟨_, _, rfl, h0, ⟨rfl, trivial⟩⟩
theorem kT_57_own {w : World} {S : Bs} {x : DSrc} {cs : List Value} (h : kT_57.own w S x cs) : ∃ v0, cs = [v0, .int .i64 x.at_] ∧ Star [ownA kSl_5 x.code [v0]] w S := by
  obtain ⟨_, _, rfl, a0⟩ := h
  obtain ⟨p0, q0, b0, c0, i0, j0, k0⟩ := star2 a0
  obtain ⟨v0, rfl⟩ := osl_one b0
  have g1 := Star.one (c := ownA kSl_5 x.code [v0]) b0
  obtain ⟨rfl, -⟩ := c0
  have g2 := g1.up i0
  exact ⟨v0, rfl, g2⟩
theorem kT_57_op {x : DSrc} {cs : List Value} (w : World) (S : Bs) (h : Star [ownA kT_57 x cs] w S) : ∃ g : Value, cs = [g, .int .i64 x.at_] ∧ Star [ownA kSl_5 x.code [g]] w S := by
  obtain ⟨v0, h1, h2⟩ := kT_57_own (show kT_57.own w S x cs from h.head (c := ownA kT_57 x cs))
  exact ⟨(v0), h1, h2⟩
theorem kT_57_omk {w : World} {S : Bs} (x : DSrc) {v0 : Value} (h : Star [ownA kSl_5 x.code [v0]] w S) : kT_57.own w S x [v0, .int .i64 x.at_] := by
  have m1 : Mk kSl_5 x.code [v0] [ownA kSl_5 x.code [v0]] := mk_leaf
  have m2 : Mk (kint .i64) x.at_ [.int .i64 x.at_] [] := mk_int
  have m3 : Mk (kpair kSl_5 (kint .i64)) (x.code, x.at_) ([v0] ++ [.int .i64 x.at_]) ([ownA kSl_5 x.code [v0]] ++ []) := mk_pair m1 m2
  have m0 : Mk kT_57 x ([v0] ++ [.int .i64 x.at_]) ([ownA kSl_5 x.code [v0]] ++ []) := m3
  exact m0 w S h
def RA_57 (x : DSrc) (r : Value) (l : List Asn) : Prop := ∃ v0, r = .agg #[v0, .int .i64 x.at_] ∧ l = [ownA kSl_5 x.code [v0]]
theorem zero_57 (w : World) (S : Bs) : kT_57.own w S (⟨[], 0⟩ : DSrc) [.slice none 0 0, .int .i64 0] := kT_57_omk (⟨[], 0⟩ : DSrc) (⟨fun _ => False, fun _ => False, own_nil _ _ none, trivial, fun _ h => h.elim, fun _ h => h.elim, fun _ h => h.elim⟩)
def PA_57 (g e s : Nat) (post : List Value) (x : DSrc) (r : Value) (l : List Asn) : Prop := ∃ v0, r = .tuple #[] ∧ l = [rowA g e s 1 (v0 :: (.int .i64 x.at_) :: post), ownA kSl_5 x.code [v0]]
abbrev kSl_2 : Kd (List Int) := kslice 2 8 (kint .i64)
theorem u_72 : Tryd.prog.underlying 72 = some (.slice 2) := by kernel_rfl
theorem ag_72 : AggIs Tryd.prog 72 false := by unfold AggIs; kernel_rfl
theorem z_72 : (Tryd.prog.info? 72).map (·.zero) = some (some (.slice none 0 0)) := by kernel_rfl
theorem sz_72 : (Tryd.prog.info? 72).map (·.size) = some 1 := by kernel_rfl
theorem inf_2 : (Tryd.prog.info? 2).map (fun i => (i.size, i.bytes, i.zero)) = some ((kint .i64).sz, 8, some (.int .i64 0)) := by kernel_rfl
theorem u_86 : Tryd.prog.underlying 86 = some (.int .u32) := by kernel_rfl
theorem sz_86 : (Tryd.prog.info? 86).map (·.size) = some 1 := by kernel_rfl
theorem z_86 : (Tryd.prog.info? 86).map (·.zero) = some (some (.int .u32 0)) := by kernel_rfl
theorem ag_86 : AggIs Tryd.prog 86 false := by unfold AggIs; kernel_rfl
end Go.Proofs.YtbfcpfmhmhklnaaDoor

/- What is proved: the kinds of this program's types, laid open and put together; facts on its types. No condition. -/
import Derived.Test.YtbfcpfmhmhklnaaProg
import Derived.Test.YtbfcpfmhmhklnaaBase0
import Derived.Test.YtbfcpfmhmhklnaaBase1
namespace Go.Proofs.Ytbfcpfmhmhklnaa
open Go Go.RowKit
set_option maxRecDepth 100000
set_option linter.unusedVariables false
set_option linter.unusedSimpArgs false
theorem u_2 : Try.prog.underlying 2 = some (.int .i64) := by kernel_rfl
theorem sz_2 : (Try.prog.info? 2).map (·.size) = some 1 := by kernel_rfl
theorem z_2 : (Try.prog.info? 2).map (·.zero) = some (some (.int .i64 0)) := by kernel_rfl
theorem ag_2 : AggIs Try.prog 2 false := by unfold AggIs; kernel_rfl
theorem u_3 : Try.prog.underlying 3 = some (.int .i64) := by kernel_rfl
theorem sz_3 : (Try.prog.info? 3).map (·.size) = some 1 := by kernel_rfl
theorem z_3 : (Try.prog.info? 3).map (·.zero) = some (some (.int .i64 0)) := by kernel_rfl
theorem ag_3 : AggIs Try.prog 3 false := by unfold AggIs; kernel_rfl
theorem u_4 : Try.prog.underlying 4 = some .bool := by kernel_rfl
theorem sz_4 : (Try.prog.info? 4).map (·.size) = some 1 := by kernel_rfl
theorem z_4 : (Try.prog.info? 4).map (·.zero) = some (some (.bool false)) := by kernel_rfl
theorem ag_4 : AggIs Try.prog 4 false := by unfold AggIs; kernel_rfl
theorem u_5 : Try.prog.underlying 5 = some (.int .u8) := by kernel_rfl
theorem sz_5 : (Try.prog.info? 5).map (·.size) = some 1 := by kernel_rfl
theorem z_5 : (Try.prog.info? 5).map (·.zero) = some (some (.int .u8 0)) := by kernel_rfl
theorem ag_5 : AggIs Try.prog 5 false := by unfold AggIs; kernel_rfl
theorem u_9 : Try.prog.underlying 9 = some .string := by kernel_rfl
theorem sz_9 : (Try.prog.info? 9).map (·.size) = some 1 := by kernel_rfl
theorem z_9 : (Try.prog.info? 9).map (·.zero) = some (some (.string ⟨#[]⟩)) := by kernel_rfl
theorem ag_9 : AggIs Try.prog 9 false := by unfold AggIs; kernel_rfl
abbrev kSl_9 : Kd (List ByteArray) := kslice 9 16 kstr
theorem u_22 : Try.prog.underlying 22 = some (.slice 9) := by kernel_rfl
theorem ag_22 : AggIs Try.prog 22 false := by unfold AggIs; kernel_rfl
theorem z_22 : (Try.prog.info? 22).map (·.zero) = some (some (.slice none 0 0)) := by kernel_rfl
theorem sz_22 : (Try.prog.info? 22).map (·.size) = some 1 := by kernel_rfl
theorem inf_9 : (Try.prog.info? 9).map (fun i => (i.size, i.bytes, i.zero)) = some (kstr.sz, 16, some (.string ⟨#[]⟩)) := by kernel_rfl
def kT_25 : Kd RText := kiso (kpair (kint .i64) kstr) (fun x => (x.code, x.text))
theorem sz_25 : (Try.prog.info? 25).map (·.size) = some 2 := by kernel_rfl
theorem z_25 : (Try.prog.info? 25).map (·.zero) = some (some (.agg #[.int .i64 0, .string ⟨#[]⟩])) := by kernel_rfl
theorem ag_25 : AggIs Try.prog 25 true := by unfold AggIs; kernel_rfl
theorem bl_25 : BuildOk Try.prog 25 (.agg #[.int .i64 0, .string ⟨#[]⟩]) #[(0, 1), (1, 1)] := ⟨by kernel_rfl, by kernel_rfl, fun w => by kernel_rfl⟩
theorem fa_25_0 (ad : Addr) (w : World) : (Instr.fieldAt 25 (.pointer (some ad)) 0).run Try.prog w = .ok (.pointer (some (ad.add 0))) w := by kernel_rfl
theorem fa_25_1 (ad : Addr) (w : World) : (Instr.fieldAt 25 (.pointer (some ad)) 1).run Try.prog w = .ok (.pointer (some (ad.add 1))) w := by kernel_rfl
theorem ent_gd_25 : Try.prog.eqGuardType Try.prog.depth 25 = false := by kernel_rfl
theorem ent_eq_25 (x y : RText) (w : World) : (Op.equalIn 10000 25 (.agg #[.int .i64 x.code, .string x.text]) (.agg #[.int .i64 y.code, .string y.text])).run Try.prog w = .ok (decide (x = y)) w := by
  rw [run_equalIn_struct w 9999 25 _ _ (by kernel_rfl) (by kernel_rfl)]
  rw [show (Try.prog.fieldsOf 25).toList = [(Try.prog.fieldsOf 25)[0]!, (Try.prog.fieldsOf 25)[1]!] by kernel_rfl]
  refine ((eqFs_cons (a := .int .i64 x.code) (b := .int .i64 y.code) (by kernel_rfl) (fun w => by kernel_rfl) (fun w => by kernel_rfl) (fun w => run_equalIn_int w 9998 _ .i64 .i64 x.code y.code (by kernel_rfl)) (eqFs_cons (a := .string x.text) (b := .string y.text) (by kernel_rfl) (fun w => by kernel_rfl) (fun w => by kernel_rfl) (fun w => run_equalIn_string w 9998 _ x.text y.text (by kernel_rfl)) eqFs_nil)) w).trans ?_
  congr 1; cases x; cases y; simp only [beq_str, beq_int, Bool.and_true, RText.mk.injEq, Bool.decide_and]
theorem kT_25_ro {w : World} {F : Bs} {x : RText} {cs : List Value} (h : kT_25.ro w F x cs) : cs = [.int .i64 x.code, .string x.text] ∧ x.text.size ≤ 140737488351232 := by
  obtain ⟨_, _, rfl, ⟨rfl, -⟩, ⟨rfl, s1⟩⟩ := h
  exact ⟨rfl, s1⟩
theorem kT_25_mk {w : World} {F : Bs} (x : RText) (s1 : x.text.size ≤ 140737488351232) : kT_25.ro w F x [.int .i64 x.code, .string x.text] :=
  ⟨_, _, rfl, ⟨rfl, trivial⟩, ⟨rfl, s1⟩⟩
theorem kT_25_own {w : World} {S : Bs} {x : RText} {cs : List Value} (h : kT_25.own w S x cs) : cs = [.int .i64 x.code, .string x.text] ∧ Star [] w S ∧ x.text.size ≤ 140737488351232 := by
  obtain ⟨_, _, rfl, a0⟩ := h
  obtain ⟨p0, q0, b0, c0, i0, j0, k0⟩ := star2 a0
  obtain ⟨rfl, -⟩ := b0
  obtain ⟨rfl, s1⟩ := c0
  exact ⟨rfl, trivial, s1⟩
theorem kT_25_op {x : RText} {cs : List Value} (w : World) (S : Bs) (h : Star [ownA kT_25 x cs] w S) : ∃ g : Unit, (cs = [.int .i64 x.code, .string x.text] ∧ x.text.size ≤ 140737488351232) ∧ Star [] w S := by
  obtain ⟨h1, h2, s1⟩ := kT_25_own (show kT_25.own w S x cs from h.head (c := ownA kT_25 x cs))
  exact ⟨(), ⟨h1, s1⟩, h2⟩
theorem kT_25_omk {w : World} {S : Bs} (x : RText) (h : Star [] w S) (s1 : x.text.size ≤ 140737488351232) : kT_25.own w S x [.int .i64 x.code, .string x.text] := by
  have m1 : Mk (kint .i64) x.code [.int .i64 x.code] [] := mk_int
  have m2 : Mk kstr x.text [.string x.text] [] := (mk_str s1)
  have m3 : Mk (kpair (kint .i64) kstr) (x.code, x.text) ([.int .i64 x.code] ++ [.string x.text]) ([] ++ []) := mk_pair m1 m2
  have m0 : Mk kT_25 x ([.int .i64 x.code] ++ [.string x.text]) ([] ++ []) := m3
  exact m0 w S h
def RA_25 (x : RText) (r : Value) (l : List Asn) : Prop := r = .agg #[.int .i64 x.code, .string x.text] ∧ l = [] ∧ x.text.size ≤ 140737488351232
theorem zero_25 (w : World) (S : Bs) : kT_25.own w S (⟨0, ⟨#[]⟩⟩ : RText) [.int .i64 0, .string ⟨#[]⟩] := kT_25_omk (⟨0, ⟨#[]⟩⟩ : RText) (trivial) (by decide)
def PA_25 (g e s : Nat) (post : List Value) (x : RText) (r : Value) (l : List Asn) : Prop := r = .tuple #[] ∧ l = [rowA g e s 1 ((.int .i64 x.code) :: (.string x.text) :: post)] ∧ x.text.size ≤ 140737488351232
abbrev kSl_5 : Kd (List UInt8) := kslice 5 1 kbyte
theorem u_36 : Try.prog.underlying 36 = some (.slice 5) := by kernel_rfl
theorem ag_36 : AggIs Try.prog 36 false := by unfold AggIs; kernel_rfl
theorem z_36 : (Try.prog.info? 36).map (·.zero) = some (some (.slice none 0 0)) := by kernel_rfl
theorem sz_36 : (Try.prog.info? 36).map (·.size) = some 1 := by kernel_rfl
theorem inf_5 : (Try.prog.info? 5).map (fun i => (i.size, i.bytes, i.zero)) = some (kbyte.sz, 1, some (.int .u8 0)) := by kernel_rfl
end Go.Proofs.Ytbfcpfmhmhklnaa

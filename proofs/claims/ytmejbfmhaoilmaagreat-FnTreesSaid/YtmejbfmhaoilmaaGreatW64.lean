/- What is proved: contracts of functions, one a function. No condition. -/
import Derived.Test.YtmejbfmhaoilmaaGreatBase1
import Derived.Test.YtmejbfmhaoilmaaGreatW60
import Derived.Test.YtmejbfmhaoilmaaGreatW50
namespace Go.Proofs.YtmejbfmhaoilmaaGreat
open Go Go.RowKit
set_option linter.unusedVariables false
set_option linter.unusedSimpArgs false
set_option maxHeartbeats 1000000
set_option maxRecDepth 20000
theorem c_161 {w0 : World} {S0 : Bs} {g0 e0 s0 : Nat} {ac : List Value} {cd : List UInt8} {Ac : Option Addr} {cc : Nat} (hcd : kSl_5.ro w0 (FF w0 S0) cd [.slice Ac cd.length cc]) {a : Int} (hs : Star [rowA g0 e0 s0 1 ((.slice Ac cd.length cc) :: (.int .i64 a) :: ac)] w0 S0) (ha : 0 ≤ a ∧ a ≤ 990000) :
    Calls Tryz.prog 161 #[.pointer (some ⟨g0, 0, none⟩)] w0 (TriPost w0 S0 (fun r l => ∃ (s : ByteArray) (u : Int), (s.size ≤ 100 ∧ a ≤ u ∧ u ≤ a + 8) ∧ r = .string s ∧ l = [rowA g0 e0 s0 1 (.slice Ac cd.length cc :: .int .i64 u :: ac)])) := by
 obtain ⟨hlc, hmc, hbc⟩ := src_hl hcd
 refine Y.enter (N := 20) Tryz.func161 rfl rfl (by simp) [(0, .pointer (some ⟨g0, 0, none⟩))] (by simp) hs ?_
 refine Y.seq (Y.region (Y.ql rfl (q_assign rfl .c) (Y.nt (Y.seq (Y.region ?_)))))
 refine Y.el rfl (e_buildNil rfl u_63 (inz inf_9)) ?_
 rintro _ _ ⟨g2, rfl, rfl⟩
 refine Y.as rfl .z (Y.nt (Y.seq (Y.seq (Y.region (Y.mv rfl .g3 ?_)))))
 refine Y.el rfl (e_buildSliceL (ps := [(0, .int .i64 1), (1, .int .i64 1), (2, .int .i64 2), (3, .int .i64 2), (4, .int .i64 3), (5, .int .i64 0)]) (cs := [.int .i64 1, .int .i64 1, .int .i64 2, .int .i64 2, .int .i64 3, .int .i64 0]) rfl u_36 (inz inf_2) (by decide) (by intro act hact; simp only [List.map_toArray, List.map_cons, List.map_nil, (show Val _ _ _ from .c) act hact, (show Val _ _ _ from .c) act hact, (show Val _ _ _ from .c) act hact, (show Val _ _ _ from .c) act hact, (show Val _ _ _ from .c) act hact, (show Val _ _ _ from .c) act hact]) rfl rfl (by decide) rfl rfl) ?_
 rintro _ _ ⟨g3, rfl, rfl⟩
 refine Y.turns (c := ownA kSl_2 ([1, 1, 2, 2, 3, 0] : (List Int)) [.slice (some ⟨g3, 0, none⟩) 6 6]) (.c .z .n) (fun w S h => lit_own (xs := ([1, 1, 2, 2, 3, 0] : (List Int))) h rfl (by simp) (by omega) (by omega)) ?_
 refine Y.cl rfl rfl Tryz.func41 rfl rfl (args2 (.t .g1) (.t .z)) (.c .g2 .n) (fun _ _ hs tr => c_41 (tr.ctx hcd) (tr.own .z) hs (by omega) (by simp)) ?_
 rintro _ _ ⟨m5, aj, rfl, rfl⟩
 refine Y.cat (.c .n) ?_
 simp only [List.mem_cons, List.not_mem_nil, or_false] at aj
 refine Y.as rfl .z (Y.nt (Y.block ?_))
 refine Y.add (c := ownA kSl_9 ([] : (List ByteArray)) [.slice (some ⟨g2, 0, none⟩) 0 0]) (fun w S => own_nil w S _) ?_
 refine Y.loopi (γ := (Option Addr) × Nat × Int × Int × (List ByteArray)) (fun ⟨aa, ab, n, z, o⟩ => [(4, .int .i64 n), (3, .slice aa o.length ab), (2, .string (⟨#[]⟩)), (0, .pointer (some ⟨g0, 0, none⟩))]) (fun ⟨aa, ab, n, z, o⟩ => [ownA kSl_9 o [.slice aa o.length ab], rowA g0 e0 s0 1 ((.slice Ac cd.length cc) :: (.int .i64 z) :: ac), ownA kSl_2 ([1, 1, 2, 2, 3, 0] : (List Int)) [.slice (some ⟨g3, 0, none⟩) 6 6], rowA g2 9 1 0 []]) (fun ⟨aa, ab, n, z, o⟩ => (0 ≤ n ∧ n ≤ 3) ∧ (a ≤ z ∧ z + n ≤ a + 5) ∧ (∀ s, s ∈ o → nameFault s = 0) ∧ (o.length : Int) + n ≤ 3) (fun ⟨aa, ab, n, z, o⟩ => n.toNat) ((some ⟨g2, 0, none⟩), 0, m5, (a + 1), []) ⟨by omega, by omega, fun s h => absurd h (by simp), by simp only [List.length_nil]; omega⟩ (.c .z (.c .g4 (.c .g6 (.c .g7 .n)))) (fun _ h => h.sel (.c .z (.c .z (.c .z (.c .z .n))))) ?_
 rintro ⟨aa, ab, n, z, o⟩ ⟨hn, hz, ho, hol⟩
 refine Y.seq (Y.seq (Y.region (Y.mv rfl .z (Y.ql rfl (q_gtr rfl (.t .z) .c) (Y.nt ?_)))))
 refine Y.condP (.t .z) (fun b7 => ?_) (fun b7 => ?_)
 refine Y.skip (Y.then_ (Y.seq (Y.block (Y.region (Y.mv rfl .g3 (Y.mv rfl .g6 ?_))))))
 refine Y.cl rfl rfl Tryz.func121 rfl rfl (args1 (.t .z)) (.c .g1 .n) (fun _ _ hs tr => c_121 (tr.ctx hcd) hs (by omega)) ?_
 rintro _ _ ⟨t8, ad, rfl, rfl⟩
 refine Y.cat (.c .n) ?_
 have ak := (name_4 ad).1
 refine Y.el rfl (e_buildSliceL (cs := [.string t8]) rfl u_63 (inz inf_9) (by decide) (pv1 (.t .z)) rfl rfl (by decide) rfl rfl) ?_
 rintro _ _ ⟨g10, rfl, rfl⟩
 refine Y.add (c := ownA kstr t8 [.string t8]) (fun _ _ => ⟨rfl, by first | assumption | omega⟩) ?_
 refine Y.el rfl (e_append1 rfl u_63 inf_9 rfl (.t .g3) (.t .z) (.c .g3 (.c .g1 (.c .z .n))) (by first | omega | (simp <;> omega)) (by first | omega | (simp <;> omega))) ?_
 rintro _ _ rfl
 refine Y.know (WS.oform .z) ?_
 rintro ⟨ae, af, rfl, ag, ah, ai⟩
 refine Y.er .g8 (Y.as rfl .z (Y.nil (Y.inBN (Y.then_ (Y.region (Y.mv rfl .g8 ?_))))))
 refine Y.ql rfl (q_sub (c := n - 1) rfl (.t .z) .c (wr (by omega) (by omega) (by omega))) ?_
 refine Y.er .g10 (Y.as rfl .z (Y.nil ?_))
 refine Y.again (ae, af, n - 1, (z + 1), o ++ [t8]) ⟨by omega, by omega, (fun s h => (List.mem_append.1 h).elim (ho s) (fun h => by obtain rfl := List.mem_singleton.1 h; assumption)), by simp only [List.length_append, List.length_cons, List.length_nil]; omega⟩ (by first | omega | (dsimp only; omega)) (.c .z (.c .g3 (.c .g11 (.c .g12 .n)))) (fun _ h => h.sel (.c .z (.c .z (.c .z (.c .z .n)))))
 refine Y.exit (Y.thenE (Y.thenE (Y.inB (Y.then_ (Y.seq (Y.region (Y.mv rfl .g3 ?_)))))))
 refine Y.cl rfl rfl Tryz.func181 rfl rfl (args1 (.t .z)) .n (fun _ _ hs tr => c_181 (tr.own .z) (by exact ho) (by omega)) ?_
 rintro _ _ ⟨rfl, rfl⟩
 refine Y.cat .n ?_
 refine Y.er .g6 (Y.as rfl .z (Y.nt (Y.ret ?_)))
 refine Y.doneS (res1 rfl .z) (.c .g1 .n) ?_
 exact ⟨_, _, ⟨by have := joinB_size ho; omega, by omega, by omega⟩, rfl, rfl⟩

end Go.Proofs.YtmejbfmhaoilmaaGreat

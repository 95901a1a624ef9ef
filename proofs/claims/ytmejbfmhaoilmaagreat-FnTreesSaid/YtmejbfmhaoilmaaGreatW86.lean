/- What is proved: contracts of functions, one a function. No condition. -/
import Derived.Test.YtmejbfmhaoilmaaGreatBase1
import Derived.Test.YtmejbfmhaoilmaaGreatW85
import Derived.Test.YtmejbfmhaoilmaaGreatW64
import Derived.Test.YtmejbfmhaoilmaaGreatW55
namespace Go.Proofs.YtmejbfmhaoilmaaGreat
open Go Go.RowKit
set_option linter.unusedVariables false
set_option linter.unusedSimpArgs false
set_option maxHeartbeats 1000000
set_option maxRecDepth 20000
theorem c_106 {w0 : World} {S0 : Bs} {g0 e0 s0 : Nat} {ac : List Value} {cd : List UInt8} {Ac : Option Addr} {cc : Nat} (hcd : kSl_5.ro w0 (FF w0 S0) cd [.slice Ac cd.length cc]) {a : Int} (hs : Star [rowA g0 e0 s0 1 ((.slice Ac cd.length cc) :: (.int .i64 a) :: ac)] w0 S0) (ha : 0 ≤ a ∧ a ≤ 990000) :
    Calls Tryz.prog 106 #[.pointer (some ⟨g0, 0, none⟩)] w0 (TriPost w0 S0 (fun r l => ∃ (x : List UInt8) (u : Int), (x.length ≤ 11 ∧ a ≤ u ∧ u ≤ a + 14) ∧ l = [ownA kSl_5 x [r], rowA g0 e0 s0 1 (.slice Ac cd.length cc :: .int .i64 u :: ac)])) := by
 obtain ⟨hlc, hmc, hbc⟩ := src_hl hcd
 refine Y.enter (N := 20) Tryz.func106 rfl rfl (by simp) [(0, .pointer (some ⟨g0, 0, none⟩))] (by simp) hs ?_
 refine Y.seq (Y.region (Y.ql rfl (q_assign rfl .c) (Y.nt (Y.seq (Y.region ?_)))))
 refine Y.el rfl (e_buildNil rfl u_22 (inz inf_5)) ?_
 rintro _ _ ⟨g2, rfl, rfl⟩
 refine Y.as rfl .z (Y.nt (Y.seq (Y.seq (Y.region (Y.mv rfl .g3 ?_)))))
 refine Y.cl rfl rfl Tryz.func42 rfl rfl (args2 (.t .z) .c) (.c .g1 .n) (fun _ _ hs tr => c_42 (tr.ctx hcd) _ hs (by omega) (by omega)) ?_
 rintro _ _ ⟨m3, h0m3, h1m3, rfl, rfl⟩
 refine Y.cat (.c .n) ?_
 refine Y.as rfl .z (Y.nt (Y.block ?_))
 refine Y.add (c := ownA kSl_5 ([] : (List UInt8)) [.slice (some ⟨g2, 0, none⟩) 0 0]) (fun w S => own_nil w S _) ?_
 refine Y.loopi (γ := (Option Addr) × Nat × Int × Int × (List UInt8)) (fun ⟨aa, ab, n, z, o⟩ => [(4, .int .i64 n), (3, .slice aa o.length ab), (2, .slice none 0 0), (0, .pointer (some ⟨g0, 0, none⟩))]) (fun ⟨aa, ab, n, z, o⟩ => [ownA kSl_5 o [.slice aa o.length ab], rowA g0 e0 s0 1 ((.slice Ac cd.length cc) :: (.int .i64 z) :: ac), rowA g2 5 1 0 []]) (fun ⟨aa, ab, n, z, o⟩ => (0 ≤ n ∧ n ≤ 11) ∧ (a ≤ z ∧ z + n ≤ a + 13) ∧ (o.length : Int) + n ≤ 11) (fun ⟨aa, ab, n, z, o⟩ => n.toNat) ((some ⟨g2, 0, none⟩), 0, m3, (a + 1), []) ⟨by omega, by omega, by simp only [List.length_nil]; omega⟩ (.c .z (.c .g3 (.c .g5 (.c .g6 .n)))) (fun _ h => h.sel (.c .z (.c .z (.c .z .n)))) ?_
 rintro ⟨aa, ab, n, z, o⟩ ⟨hn, hz, hol⟩
 refine Y.seq (Y.seq (Y.region (Y.mv rfl .z (Y.ql rfl (q_gtr rfl (.t .z) .c) (Y.nt ?_)))))
 refine Y.condP (.t .z) (fun b5 => ?_) (fun b5 => ?_)
 refine Y.skip (Y.then_ (Y.seq (Y.block (Y.region (Y.mv rfl .g3 (Y.mv rfl .g6 ?_))))))
 refine Y.cl rfl rfl Tryz.func42 rfl rfl (args2 (.t .z) .c) (.c .g1 .n) (fun _ _ hs tr => c_42 (tr.ctx hcd) _ hs (by omega) (by omega)) ?_
 rintro _ _ ⟨m6, h0m6, h1m6, rfl, rfl⟩
 refine Y.cat (.c .n) ?_
 refine Y.ql rfl (q_add (c := 97 + m6) rfl .c (.t .z) (wr (by omega) (by omega) (by omega))) ?_
 refine Y.ql rfl (q_conv (c := ((mbyte (97 + m6)).toNat : Int)) rfl (.t .z) u_2 u_5 (mbyte_wrap _)) ?_
 refine Y.el rfl (e_buildSliceL (cs := [.int .u8 ((mbyte (97 + m6)).toNat : Int)]) rfl u_22 (inz inf_5) (by decide) (pv1 (.t .z)) rfl rfl (by decide) rfl rfl) ?_
 rintro _ _ ⟨g7, rfl, rfl⟩
 refine Y.add (c := ownA kbyte (mbyte (97 + m6)) [.int .u8 ((mbyte (97 + m6)).toNat : Int)]) (fun _ _ => ⟨rfl, trivial⟩) ?_
 refine Y.el rfl (e_append1 rfl u_22 inf_5 rfl (.t .g5) (.t .z) (.c .g3 (.c .g1 (.c .z .n))) (by first | omega | (simp <;> omega)) (by first | omega | (simp <;> omega))) ?_
 rintro _ _ rfl
 refine Y.know (WS.oform .z) ?_
 rintro ⟨ad, ae, rfl, af, ag, ah⟩
 refine Y.er .g10 (Y.as rfl .z (Y.nil (Y.inBN (Y.then_ (Y.region (Y.mv rfl .g10 ?_))))))
 refine Y.ql rfl (q_sub (c := n - 1) rfl (.t .z) .c (wr (by omega) (by omega) (by omega))) ?_
 refine Y.er .g12 (Y.as rfl .z (Y.nil ?_))
 refine Y.again (ad, ae, n - 1, (z + 1), o ++ [(mbyte (97 + m6))]) ⟨by omega, by omega, by simp only [List.length_append, List.length_cons, List.length_nil]; omega⟩ (by first | omega | (dsimp only; omega)) (.c .z (.c .g3 (.c .g13 (.c .g14 .n)))) (fun _ h => h.sel (.c .z (.c .z (.c .z .n))))
 refine Y.exit (Y.thenE (Y.thenE (Y.inB (Y.then_ (Y.seq (Y.region (Y.mv rfl .g3 (Y.er .g5 ?_))))))))
 refine Y.as rfl .z (Y.nt (Y.ret ?_))
 refine Y.doneS (res1 rfl .z) (.c .z (.c .z .n)) ?_
 exact ⟨_, _, ⟨by first | omega | (simp <;> omega), by omega, by omega⟩, rfl⟩

theorem c_133 {w0 : World} {S0 : Bs} {g0 e0 s0 : Nat} {aa : List Value} {cd : List UInt8} {Ac : Option Addr} {cc : Nat} (hcd : kSl_5.ro w0 (FF w0 S0) cd [.slice Ac cd.length cc]) {a : Int} (hs : Star [rowA g0 e0 s0 1 ((.slice Ac cd.length cc) :: (.int .i64 a) :: aa)] w0 S0) (ha : 0 ≤ a ∧ a ≤ 980000) :
    Calls Tryz.prog 133 #[.pointer (some ⟨g0, 0, none⟩)] w0 (TriPost w0 S0 (fun r l => ∃ (x : DCall) (v0_ : Value) (u : Int), (x.path.size ≤ 100 ∧ x.to.size ≤ 100 ∧ a ≤ u ∧ u ≤ a + 30) ∧ r = .agg #[.int .i64 x.kind, .string x.path, .string x.to, .int .i64 x.frm, .int .i64 x.size, v0_] ∧ l = [ownA kSl_5 x.data [v0_], rowA g0 e0 s0 1 (.slice Ac cd.length cc :: .int .i64 u :: aa)])) := by
 obtain ⟨hlc, hmc, hbc⟩ := src_hl hcd
 refine Y.enter (N := 66) Tryz.func133 rfl rfl (by simp) [(0, .pointer (some ⟨g0, 0, none⟩))] (by simp) hs ?_
 refine Y.seq (Y.region ?_)
 refine Y.el rfl (e_alloc rfl z_158 rfl rfl) ?_
 rintro _ _ ⟨g2, rfl, rfl⟩
 refine Y.nt (Y.seq (Y.region (Y.mv rfl .g1 ?_)))
 refine Y.cl rfl rfl Tryz.func161 rfl rfl (args1 (.t .z)) (.c .g1 .n) (fun _ _ hs tr => c_161 (tr.ctx hcd) hs (by omega)) ?_
 rintro _ _ ⟨t3, u4, aw, rfl, rfl⟩
 refine Y.cat (.c .n) ?_
 refine Y.as rfl .z (Y.nt (Y.seq (Y.seq (Y.region (Y.mv rfl .g4 ?_)))))
 refine Y.cl rfl rfl Tryz.func42 rfl rfl (args2 (.t .z) .c) (.c .z .n) (fun _ _ hs tr => c_42 (tr.ctx hcd) _ hs (by omega) (by omega)) ?_
 rintro _ _ ⟨m5, h0m5, h1m5, rfl, rfl⟩
 refine Y.cat (.c .n) ?_
 refine Y.nt (Y.block (Y.seq (Y.seq (Y.region (Y.ql rfl (q_eql rfl (.t .z) .c) (Y.as rfl .z (Y.nil ?_)))))))
 refine Y.then_ ?_
 refine Y.condP (.t .z) (fun b6 => ?_) (fun b6 => ?_)
 refine Y.skip (Y.then_ ?_)
 refine Y.condP (.t .z) (fun b7 => ?_) (fun b7 => ?_)
 refine Y.seq (Y.region (Y.mv rfl .g4 (Y.ql rfl (q_build (cs := [.int .i64 1, .string t3, .string (⟨#[]⟩), .int .i64 0, .int .i64 0, .slice none 0 0]) rfl bl_158 (pv2 .c (.t .z)) rfl) ?_)))
 refine Y.es (goes_list rfl) rfl (esW rfl (.t .g9) (.t .z) .g1 sz_158 rfl rfl) ?_
 refine Y.nt (Y.ret (Y.inBR (Y.thenR ?_)))
 refine Y.add (c := ownA kSl_5 [] [.slice none 0 0]) (fun w S => own_nil w S none) ?_
 refine Y.doneS (resW rfl .g9 ag_158 .g1 sz_158) (.c .z (.c .g1 .n)) ?_
 exact ⟨⟨1, t3, ⟨#[]⟩, 0, 0, []⟩, _, _, ⟨by dsimp only; first | omega | decide, by dsimp only; first | omega | decide, by omega, by omega⟩, rfl, rfl⟩
 exfalso; first | omega | contradiction
 refine Y.region (Y.ql rfl (q_eql rfl (.t .g2) .c) (Y.er .g1 (Y.as rfl .z (Y.nt ?_))))
 refine Y.condP (.t .z) (fun b9 => ?_) (fun b9 => ?_)
 refine Y.seq (Y.region (Y.mv rfl .g5 (Y.ql rfl (q_build (cs := [.int .i64 1, .string t3, .string (⟨#[]⟩), .int .i64 0, .int .i64 0, .slice none 0 0]) rfl bl_158 (pv2 .c (.t .z)) rfl) ?_)))
 refine Y.es (goes_list rfl) rfl (esW rfl (.t .g10) (.t .z) .g1 sz_158 rfl rfl) ?_
 refine Y.nt (Y.ret (Y.inBR (Y.thenR ?_)))
 refine Y.add (c := ownA kSl_5 [] [.slice none 0 0]) (fun w S => own_nil w S none) ?_
 refine Y.doneS (resW rfl .g10 ag_158 .g1 sz_158) (.c .z (.c .g1 .n)) ?_
 exact ⟨⟨1, t3, ⟨#[]⟩, 0, 0, []⟩, _, _, ⟨by dsimp only; first | omega | decide, by dsimp only; first | omega | decide, by omega, by omega⟩, rfl, rfl⟩
 refine Y.seq (Y.seq (Y.region (Y.ql rfl (q_eql rfl (.t .g3) .c) (Y.as rfl .z (Y.nt ?_)))))
 refine Y.condP (.t .z) (fun ax => ?_) (fun ax => ?_)
 refine Y.skip (Y.then_ ?_)
 refine Y.condP (.t .z) (fun ay => ?_) (fun ay => ?_)
 refine Y.seq (Y.region (Y.mv rfl .g7 (Y.ql rfl (q_build (cs := [.int .i64 2, .string t3, .string (⟨#[]⟩), .int .i64 0, .int .i64 0, .slice none 0 0]) rfl bl_158 (pv2 .c (.t .z)) rfl) ?_)))
 refine Y.es (goes_list rfl) rfl (esW rfl (.t .g12) (.t .z) .g1 sz_158 rfl rfl) ?_
 refine Y.nt (Y.ret (Y.inBR (Y.thenR ?_)))
 refine Y.add (c := ownA kSl_5 [] [.slice none 0 0]) (fun w S => own_nil w S none) ?_
 refine Y.doneS (resW rfl .g12 ag_158 .g1 sz_158) (.c .z (.c .g1 .n)) ?_
 exact ⟨⟨2, t3, ⟨#[]⟩, 0, 0, []⟩, _, _, ⟨by dsimp only; first | omega | decide, by dsimp only; first | omega | decide, by omega, by omega⟩, rfl, rfl⟩
 exfalso; first | omega | contradiction
 refine Y.region (Y.ql rfl (q_eql rfl (.t .g5) .c) (Y.er .g1 (Y.as rfl .z (Y.nt ?_))))
 refine Y.condP (.t .z) (fun az => ?_) (fun az => ?_)
 refine Y.seq (Y.region (Y.mv rfl .g8 (Y.ql rfl (q_build (cs := [.int .i64 2, .string t3, .string (⟨#[]⟩), .int .i64 0, .int .i64 0, .slice none 0 0]) rfl bl_158 (pv2 .c (.t .z)) rfl) ?_)))
 refine Y.es (goes_list rfl) rfl (esW rfl (.t .g13) (.t .z) .g1 sz_158 rfl rfl) ?_
 refine Y.nt (Y.ret (Y.inBR (Y.thenR ?_)))
 refine Y.add (c := ownA kSl_5 [] [.slice none 0 0]) (fun w S => own_nil w S none) ?_
 refine Y.doneS (resW rfl .g13 ag_158 .g1 sz_158) (.c .z (.c .g1 .n)) ?_
 exact ⟨⟨2, t3, ⟨#[]⟩, 0, 0, []⟩, _, _, ⟨by dsimp only; first | omega | decide, by dsimp only; first | omega | decide, by omega, by omega⟩, rfl, rfl⟩
 refine Y.seq (Y.region (Y.ql rfl (q_eql rfl (.t .g6) .c) (Y.as rfl .z (Y.nt ?_))))
 refine Y.condP (.t .z) (fun a0 => ?_) (fun a0 => ?_)
 refine Y.seq (Y.region (Y.mv rfl .g10 (Y.mv rfl .g15 ?_)))
 refine Y.cl rfl rfl Tryz.func42 rfl rfl (args2 (.t .z) .c) (.c .z .n) (fun _ _ hs tr => c_42 (tr.ctx hcd) _ hs (by omega) (by omega)) ?_
 rintro _ _ ⟨ag, h0m17, h1m17, rfl, rfl⟩
 refine Y.cat (.c .n) ?_
 refine Y.mv rfl (.s16 .g1) ?_
 refine Y.cl rfl rfl Tryz.func42 rfl rfl (args2 (.t .z) .c) (.c .z .n) (fun _ _ hs tr => c_42 (tr.ctx hcd) _ hs (by omega) (by omega)) ?_
 rintro _ _ ⟨ah, h0m18, h1m18, rfl, rfl⟩
 refine Y.cat (.c .n) ?_
 refine Y.ql rfl (q_build (cs := [.int .i64 4, .string t3, .string (⟨#[]⟩), .int .i64 ag, .int .i64 ah, .slice none 0 0]) rfl bl_158 (pv4 .c (.t .g4) (.t .g2) (.t .z)) rfl) ?_
 refine Y.es (goes_list rfl) rfl (esW rfl (.t (.s16 .g3)) (.t .z) .g1 sz_158 rfl rfl) ?_
 refine Y.nt (Y.ret (Y.inBR (Y.thenR ?_)))
 refine Y.add (c := ownA kSl_5 [] [.slice none 0 0]) (fun w S => own_nil w S none) ?_
 refine Y.doneS (resW rfl (.s16 .g3) ag_158 .g1 sz_158) (.c .z (.c .g1 .n)) ?_
 exact ⟨⟨4, t3, ⟨#[]⟩, ag, ah, []⟩, _, _, ⟨by dsimp only; first | omega | decide, by dsimp only; first | omega | decide, by omega, by omega⟩, rfl, rfl⟩
 refine Y.seq (Y.region (Y.ql rfl (q_eql rfl (.t .g8) .c) (Y.as rfl .z (Y.nt ?_))))
 refine Y.condP (.t .z) (fun a1 => ?_) (fun a1 => ?_)
 refine Y.seq (Y.region (Y.mv rfl .g12 (Y.mv rfl (.s16 .g1) ?_)))
 refine Y.cl rfl rfl Tryz.func42 rfl rfl (args2 (.t .z) .c) (.c .z .n) (fun _ _ hs tr => c_42 (tr.ctx hcd) _ hs (by omega) (by omega)) ?_
 rintro _ _ ⟨ai, h0m21, h1m21, rfl, rfl⟩
 refine Y.cat (.c .n) ?_
 refine Y.ql rfl (q_build (cs := [.int .i64 5, .string t3, .string (⟨#[]⟩), .int .i64 0, .int .i64 ai, .slice none 0 0]) rfl bl_158 (pv3 .c (.t .g2) (.t .z)) rfl) ?_
 refine Y.es (goes_list rfl) rfl (esW rfl (.t (.s16 .g3)) (.t .z) .g1 sz_158 rfl rfl) ?_
 refine Y.nt (Y.ret (Y.inBR (Y.thenR ?_)))
 refine Y.add (c := ownA kSl_5 [] [.slice none 0 0]) (fun w S => own_nil w S none) ?_
 refine Y.doneS (resW rfl (.s16 .g3) ag_158 .g1 sz_158) (.c .z (.c .g1 .n)) ?_
 exact ⟨⟨5, t3, ⟨#[]⟩, 0, ai, []⟩, _, _, ⟨by dsimp only; first | omega | decide, by dsimp only; first | omega | decide, by omega, by omega⟩, rfl, rfl⟩
 refine Y.seq (Y.region (Y.ql rfl (q_eql rfl (.t .g10) .c) (Y.as rfl .z (Y.nt ?_))))
 refine Y.condP (.t .z) (fun a2 => ?_) (fun a2 => ?_)
 refine Y.seq (Y.region (Y.mv rfl .g14 (Y.ql rfl (q_build (cs := [.int .i64 6, .string t3, .string (⟨#[]⟩), .int .i64 0, .int .i64 0, .slice none 0 0]) rfl bl_158 (pv2 .c (.t .z)) rfl) ?_)))
 refine Y.es (goes_list rfl) rfl (esW rfl (.t (.s16 .g3)) (.t .z) .g1 sz_158 rfl rfl) ?_
 refine Y.nt (Y.ret (Y.inBR (Y.thenR ?_)))
 refine Y.add (c := ownA kSl_5 [] [.slice none 0 0]) (fun w S => own_nil w S none) ?_
 refine Y.doneS (resW rfl (.s16 .g3) ag_158 .g1 sz_158) (.c .z (.c .g1 .n)) ?_
 exact ⟨⟨6, t3, ⟨#[]⟩, 0, 0, []⟩, _, _, ⟨by dsimp only; first | omega | decide, by dsimp only; first | omega | decide, by omega, by omega⟩, rfl, rfl⟩
 refine Y.seq (Y.region (Y.ql rfl (q_eql rfl (.t .g12) .c) (Y.as rfl .z (Y.nt ?_))))
 refine Y.condP (.t .z) (fun a3 => ?_) (fun a3 => ?_)
 refine Y.seq (Y.region (Y.mv rfl .g16 (Y.ql rfl (q_build (cs := [.int .i64 7, .string t3, .string (⟨#[]⟩), .int .i64 0, .int .i64 0, .slice none 0 0]) rfl bl_158 (pv2 .c (.t .z)) rfl) ?_)))
 refine Y.es (goes_list rfl) rfl (esW rfl (.t (.s16 .g5)) (.t .z) .g1 sz_158 rfl rfl) ?_
 refine Y.nt (Y.ret (Y.inBR (Y.thenR ?_)))
 refine Y.add (c := ownA kSl_5 [] [.slice none 0 0]) (fun w S => own_nil w S none) ?_
 refine Y.doneS (resW rfl (.s16 .g5) ag_158 .g1 sz_158) (.c .z (.c .g1 .n)) ?_
 exact ⟨⟨7, t3, ⟨#[]⟩, 0, 0, []⟩, _, _, ⟨by dsimp only; first | omega | decide, by dsimp only; first | omega | decide, by omega, by omega⟩, rfl, rfl⟩
 refine Y.seq (Y.region (Y.ql rfl (q_eql rfl (.t .g14) .c) (Y.as rfl .z (Y.nt ?_))))
 refine Y.condP (.t .z) (fun a4 => ?_) (fun a4 => ?_)
 refine Y.seq (Y.region (Y.mv rfl (.s16 .g2) (Y.mv rfl (.s16 .g7) ?_)))
 refine Y.cl rfl rfl Tryz.func161 rfl rfl (args1 (.t .z)) (.c .z .n) (fun _ _ hs tr => c_161 (tr.ctx hcd) hs (by omega)) ?_
 rintro _ _ ⟨aj, u29, ak, rfl, rfl⟩
 refine Y.cat (.c .n) ?_
 refine Y.ql rfl (q_build (cs := [.int .i64 8, .string t3, .string aj, .int .i64 0, .int .i64 0, .slice none 0 0]) rfl bl_158 (pv3 .c (.t .g2) (.t .z)) rfl) ?_
 refine Y.es (goes_list rfl) rfl (esW rfl (.t (.s16 .g9)) (.t .z) .g1 sz_158 rfl rfl) ?_
 refine Y.nt (Y.ret (Y.inBR (Y.thenR ?_)))
 refine Y.add (c := ownA kSl_5 [] [.slice none 0 0]) (fun w S => own_nil w S none) ?_
 refine Y.doneS (resW rfl (.s16 .g9) ag_158 .g1 sz_158) (.c .z (.c .g1 .n)) ?_
 exact ⟨⟨8, t3, aj, 0, 0, []⟩, _, _, ⟨by dsimp only; first | omega | decide, by dsimp only; first | omega | decide, by omega, by omega⟩, rfl, rfl⟩
 refine Y.seq (Y.seq (Y.region (Y.ql rfl (q_eql rfl (.t .g16) .c) (Y.as rfl .z (Y.nt ?_)))))
 refine Y.condP (.t .z) (fun a5 => ?_) (fun a5 => ?_)
 refine Y.skip (Y.then_ ?_)
 refine Y.condP (.t .z) (fun a6 => ?_) (fun a6 => ?_)
 refine Y.seq (Y.region (Y.mv rfl (.s16 .g4) (Y.mv rfl (.s16 .g9) ?_)))
 refine Y.cl rfl rfl Tryz.func161 rfl rfl (args1 (.t .z)) (.c .z .n) (fun _ _ hs tr => c_161 (tr.ctx hcd) hs (by omega)) ?_
 rintro _ _ ⟨al, u34, am, rfl, rfl⟩
 refine Y.cat (.c .n) ?_
 refine Y.ql rfl (q_build (cs := [.int .i64 9, .string t3, .string al, .int .i64 0, .int .i64 0, .slice none 0 0]) rfl bl_158 (pv3 .c (.t .g2) (.t .z)) rfl) ?_
 refine Y.es (goes_list rfl) rfl (esW rfl (.t (.s16 .g11)) (.t .z) .g1 sz_158 rfl rfl) ?_
 refine Y.nt (Y.ret (Y.inBR (Y.thenR ?_)))
 refine Y.add (c := ownA kSl_5 [] [.slice none 0 0]) (fun w S => own_nil w S none) ?_
 refine Y.doneS (resW rfl (.s16 .g11) ag_158 .g1 sz_158) (.c .z (.c .g1 .n)) ?_
 exact ⟨⟨9, t3, al, 0, 0, []⟩, _, _, ⟨by dsimp only; first | omega | decide, by dsimp only; first | omega | decide, by omega, by omega⟩, rfl, rfl⟩
 exfalso; first | omega | contradiction
 refine Y.region (Y.ql rfl (q_eql rfl (.t (.s16 .g2)) .c) (Y.er .g1 (Y.as rfl .z (Y.nt ?_))))
 refine Y.condP (.t .z) (fun a7 => ?_) (fun a7 => ?_)
 refine Y.seq (Y.region (Y.mv rfl (.s16 .g5) (Y.mv rfl (.s16 .g10) ?_)))
 refine Y.cl rfl rfl Tryz.func161 rfl rfl (args1 (.t .z)) (.c .z .n) (fun _ _ hs tr => c_161 (tr.ctx hcd) hs (by omega)) ?_
 rintro _ _ ⟨an, u38, ao, rfl, rfl⟩
 refine Y.cat (.c .n) ?_
 refine Y.ql rfl (q_build (cs := [.int .i64 9, .string t3, .string an, .int .i64 0, .int .i64 0, .slice none 0 0]) rfl bl_158 (pv3 .c (.t .g2) (.t .z)) rfl) ?_
 refine Y.es (goes_list rfl) rfl (esW rfl (.t (.s16 .g12)) (.t .z) .g1 sz_158 rfl rfl) ?_
 refine Y.nt (Y.ret (Y.inBR (Y.thenR ?_)))
 refine Y.add (c := ownA kSl_5 [] [.slice none 0 0]) (fun w S => own_nil w S none) ?_
 refine Y.doneS (resW rfl (.s16 .g12) ag_158 .g1 sz_158) (.c .z (.c .g1 .n)) ?_
 exact ⟨⟨9, t3, an, 0, 0, []⟩, _, _, ⟨by dsimp only; first | omega | decide, by dsimp only; first | omega | decide, by omega, by omega⟩, rfl, rfl⟩
 refine Y.seq (Y.region (Y.ql rfl (q_eql rfl (.t (.s16 .g3)) .c) (Y.as rfl .z (Y.nt ?_))))
 refine Y.condP (.t .z) (fun a8 => ?_) (fun a8 => ?_)
 refine Y.seq (Y.region (Y.mv rfl (.s16 .g11) ?_))
 refine Y.el rfl (e_buildSliceL (cs := [.int .i64 10, .int .i64 11]) rfl u_36 (inz inf_2) (by decide) (pv2 .c .c) rfl rfl (by decide) rfl rfl) ?_
 rintro _ _ ⟨g41, rfl, rfl⟩
 refine Y.turns (c := ownA kSl_2 ([10, 11] : (List Int)) [.slice (some ⟨g41, 0, none⟩) 2 2]) (.c .z .n) (fun w S h => lit_own (xs := ([10, 11] : (List Int))) h rfl (by simp) (by omega) (by omega)) ?_
 refine Y.cl rfl rfl Tryz.func41 rfl rfl (args2 (.t .g1) (.t .z)) (.c .g1 .n) (fun _ _ hs tr => c_41 (tr.ctx hcd) (tr.own .z) hs (by omega) (by simp)) ?_
 rintro _ _ ⟨ap, ac, rfl, rfl⟩
 refine Y.cat (.c .n) ?_
 simp only [List.mem_cons, List.not_mem_nil, or_false] at ac
 refine Y.mv rfl (.s16 .g10) (Y.ql rfl (q_build (cs := [.int .i64 ap, .string t3, .string (⟨#[]⟩), .int .i64 0, .int .i64 0, .slice none 0 0]) rfl bl_158 (pv2 (.t .g1) (.t .z)) rfl) ?_)
 refine Y.es (goes_list rfl) rfl (esW rfl (.t (.s16 .g15)) (.t .z) .g2 sz_158 rfl rfl) ?_
 refine Y.nt (Y.ret (Y.inBR (Y.thenR ?_)))
 refine Y.add (c := ownA kSl_5 [] [.slice none 0 0]) (fun w S => own_nil w S none) ?_
 refine Y.doneS (resW rfl (.s16 .g15) ag_158 .g1 sz_158) (.c .z (.c .g1 .n)) ?_
 exact ⟨⟨ap, t3, ⟨#[]⟩, 0, 0, []⟩, _, _, ⟨by dsimp only; first | omega | decide, by dsimp only; first | omega | decide, by omega, by omega⟩, rfl, rfl⟩
 refine Y.skip (Y.inBN (Y.then_ (Y.seq (Y.region (Y.mv rfl (.s16 .g7) (Y.mv rfl (.s16 .g12) ?_))))))
 refine Y.cl rfl rfl Tryz.func42 rfl rfl (args2 (.t .z) .c) (.c .z .n) (fun _ _ hs tr => c_42 (tr.ctx hcd) _ hs (by omega) (by omega)) ?_
 rintro _ _ ⟨aq, h0m45, h1m45, rfl, rfl⟩
 refine Y.cat (.c .n) ?_
 refine Y.mv rfl (.s16 .g14) ?_
 refine Y.cl rfl rfl Tryz.func106 rfl rfl (args1 (.t .z)) (.c .z .n) (fun _ _ hs tr => c_106 (tr.ctx hcd) hs (by omega)) ?_
 rintro _ _ ⟨ab, u46, ad, rfl⟩
 refine Y.cat (.c (.c .n)) ?_
 refine Y.know (WS.oform .z) ?_
 rintro ⟨ae, af, rfl, ar, au, av⟩
 refine Y.ql rfl (q_build (cs := [.int .i64 3, .string t3, .string (⟨#[]⟩), .int .i64 aq, .int .i64 0, .slice ae ab.length af]) rfl bl_158 (pv4 .c (.t .g4) (.t .g2) (.t .z)) rfl) ?_
 refine Y.es (goes_list rfl) rfl (esW rfl (.t (.s16 .g16)) (.t .z) .g2 sz_158 rfl rfl) ?_
 refine Y.nt (Y.ret ?_)
 refine Y.doneS (resW rfl (.s16 .g16) ag_158 .z sz_158) (.c .g1 (.c .g1 .n)) ?_
 exact ⟨⟨3, t3, ⟨#[]⟩, aq, 0, ab⟩, _, _, ⟨by dsimp only; first | omega | decide, by dsimp only; first | omega | decide, by omega, by omega⟩, rfl, rfl⟩

theorem c_91 {w0 : World} {S0 : Bs} {g0 e0 s0 : Nat} {ac : List Value} {cd : List UInt8} {Ac : Option Addr} {cc : Nat} (hcd : kSl_5.ro w0 (FF w0 S0) cd [.slice Ac cd.length cc]) {a : Int} (n : Int) (hs : Star [rowA g0 e0 s0 1 ((.slice Ac cd.length cc) :: (.int .i64 a) :: ac)] w0 S0) (ha : 0 ≤ a ∧ a ≤ 900000) (hn : 0 ≤ n ∧ n ≤ 24) :
    Calls Tryz.prog 91 #[.pointer (some ⟨g0, 0, none⟩), .int .i64 n] w0 (TriPost w0 S0 (fun r l => ∃ (f : DFs) (v0_ v1_ : Value) (u : Int), (Jf f ∧ a ≤ u ∧ u ≤ a + 800) ∧ r = .agg #[v0_, v1_] ∧ l = [ownA kSl_44 f.inodes [v0_], ownA kSl_22 f.data [v1_], rowA g0 e0 s0 1 (.slice Ac cd.length cc :: .int .i64 u :: ac)])) := by
 obtain ⟨hlc, hmc, hbc⟩ := src_hl hcd
 refine Y.enter (N := 33) Tryz.func91 rfl rfl (by simp) [(0, .pointer (some ⟨g0, 0, none⟩)), (1, .int .i64 n)] (by simp) hs ?_
 refine Y.seq (Y.region ?_)
 refine Y.el rfl (e_alloc rfl z_27 rfl rfl) ?_
 rintro _ _ ⟨g2, rfl, rfl⟩
 refine Y.nt (Y.seq (Y.region ?_))
 refine Y.cl rfl rfl Tryz.func131 rfl rfl (args0 ) .n (fun _ _ hs tr => c_131) ?_
 rintro _ _ ⟨v3, v5, rfl, rfl⟩
 refine Y.cat (.c (.c .n)) ?_
 refine Y.know (WS.oform .z) ?_
 rintro ⟨gk, gl, rfl, gm, gn, go⟩
 refine Y.know (WS.oform .g1) ?_
 rintro ⟨gp, gq, rfl, gr, gs, gt⟩
 refine Y.el rfl (e_alloc rfl z_27 rfl rfl) ?_
 rintro _ _ ⟨g9, rfl, rfl⟩
 refine Y.es (goes_list rfl) rfl (esW rfl (.t .z) (.t .g1) .z sz_27 rfl rfl) ?_
 refine Y.nt (Y.seq (Y.seq (Y.region (Y.ql rfl (q_assign rfl .c) (Y.nt (Y.block ?_))))))
 refine Y.loopi (γ := Nat × (Option Addr) × Nat × (Option Addr) × Nat × Int × DFs) (fun ⟨k, ai, aj, ak, al, z, D⟩ => [(6, .int .i64 (k : Int)), (5, .pointer (some ⟨g9, 0, none⟩)), (4, .pointer (some ⟨g2, 0, none⟩)), (0, .pointer (some ⟨g0, 0, none⟩)), (1, .int .i64 n)]) (fun ⟨k, ai, aj, ak, al, z, D⟩ => [rowA g9 27 2 1 [.slice ai D.inodes.length aj, .slice ak D.data.length al], ownA kSl_44 D.inodes [.slice ai D.inodes.length aj], ownA kSl_22 D.data [.slice ak D.data.length al], rowA g2 27 2 1 [.slice none 0 0, .slice none 0 0], rowA g0 e0 s0 1 ((.slice Ac cd.length cc) :: (.int .i64 z) :: ac)]) (fun ⟨k, ai, aj, ak, al, z, D⟩ => k ≤ 3 ∧ (a ≤ z ∧ z ≤ a + k) ∧ Jf D) (fun ⟨k, ai, aj, ak, al, z, D⟩ => 3 - k) (0, gk, gl, gp, gq, a, (⟨[⟨2, 0, 0, [], []⟩], List.replicate 20 []⟩ : DFs)) ⟨Nat.zero_le _, by omega, j_new⟩ (.c .z (.c .g1 (.c .g3 (.c .g4 (.c .g5 .n))))) (fun _ h => h.sel (.c .z (.c .z (.c .z (.c .z (.c .z .n)))))) ?_
 rintro ⟨k, ai, aj, ak, al, z, D⟩ ⟨hk, hz, hD⟩
 refine Y.seq (Y.seq (Y.region (Y.mv rfl .z (Y.ql rfl (q_lss rfl (.t .z) .c) (Y.nt ?_)))))
 refine Y.condP (.t .z) (fun gu => ?_) (fun gu => ?_)
 refine Y.skip (Y.then_ ?_)
 refine Y.cut (γ := (Option Addr) × Nat × (Option Addr) × Nat × Int × DFs) (fun ⟨am, an, ao, ap, x, G⟩ => [(6, .int .i64 (k : Int)), (5, .pointer (some ⟨g9, 0, none⟩)), (4, .pointer (some ⟨g2, 0, none⟩)), (0, .pointer (some ⟨g0, 0, none⟩)), (1, .int .i64 n)]) (fun ⟨am, an, ao, ap, x, G⟩ => [rowA g9 27 2 1 [.slice am G.inodes.length an, .slice ao G.data.length ap], ownA kSl_44 G.inodes [.slice am G.inodes.length an], ownA kSl_22 G.data [.slice ao G.data.length ap], rowA g2 27 2 1 [.slice none 0 0, .slice none 0 0], rowA g0 e0 s0 1 ((.slice Ac cd.length cc) :: (.int .i64 x) :: ac)]) (fun ⟨am, an, ao, ap, x, G⟩ => x = z + 1 ∧ Jf G) ?_ ?_
 refine Y.block ?_
 refine Y.sel (.c .g1 (.c .g1 (.c .g2 (.c .z (.c .z .n))))) ?_
 refine Y.dr .g3 11 mixo ?_
 refine Y.sc [(0, true), (1, true), (5, true)] (by kernel_rfl) ?_
 refine Y.dk rfl rfl .g3 (qW rfl ag_27 (.t .g3) .z sz_27) (Y.dm rfl rfl .g3 .g6 (Y.dm rfl rfl .g3 .g4 (Y.schN ?_)))
 refine Y.fork2 (i := 2) (j := 4) (by kernel_rfl) ?_ ?_
 refine Y.e (goes_sch rfl rfl) rfl (by decide) rfl (e_buildSliceL (cs := [.int .i64 2, .int .i64 1]) rfl u_36 (inz inf_2) (by decide) (pv2 .c .c) rfl rfl (by decide) rfl rfl) ?_
 rintro _ _ ⟨g11, rfl, rfl⟩
 refine Y.sk .g4 ?_
 refine Y.schN ?_
 refine Y.sc [] (by kernel_rfl) ?_
 refine Y.schN ?_
 refine Y.fork2 (i := 3) (j := 4) (by kernel_rfl) ?_ ?_
 refine Y.turns (c := ownA kSl_2 ([2, 1] : (List Int)) [.slice (some ⟨g11, 0, none⟩) 2 2]) (.c .z .n) (fun w S h => lit_own (xs := ([2, 1] : (List Int))) h rfl (by simp) (by omega) (by omega)) ?_
 refine Y.call (goes_sch rfl rfl) rfl (by decide) rfl (c_call rfl Tryz.func41 rfl rfl (args2 (.t .g2) (.t .z))) (.c .g3 .n) (fun _ _ hs tr => c_41 (tr.ctx hcd) (tr.own .z) hs (by omega) (by simp)) ?_
 rintro _ _ ⟨ea, b4, rfl, rfl⟩
 refine Y.cat (.c .n) ?_
 simp only [List.mem_cons, List.not_mem_nil, or_false] at b4
 refine Y.sk .g4 ?_
 refine Y.schN ?_
 refine Y.sc [(4, false), (6, true), (7, false), (8, true), (9, false), (10, true), (11, false)] (by kernel_rfl) ?_
 refine Y.e (goes_sch rfl rfl) rfl (by decide) rfl (e_buildSliceL (cs := [.string (⟨#[47, 97]⟩), .string (⟨#[47, 98]⟩), .string (⟨#[47, 99]⟩)]) rfl u_63 (inz inf_9) (by decide) (pv3 .c .c .c) rfl rfl (by decide) rfl rfl) ?_
 rintro _ _ ⟨g14, rfl, rfl⟩
 refine Y.sk .g5 ?_
 refine Y.turns (c := ownA kSl_9 ([⟨#[47, 97]⟩, ⟨#[47, 98]⟩, ⟨#[47, 99]⟩] : (List ByteArray)) [.slice (some ⟨g14, 0, none⟩) 3 3]) (.c .z .n) (fun w S h => lit_own (xs := ([⟨#[47, 97]⟩, ⟨#[47, 98]⟩, ⟨#[47, 99]⟩] : (List ByteArray))) h rfl (by decide) (by omega) (by omega)) ?_
 refine Y.dk rfl rfl .g5 (q_indexAddr (j := k) rfl u_63 sz_9 (.t .z) (.t .g3) rfl (by first | omega | (simp <;> omega))) ?_
 obtain ⟨eb, b5⟩ := get_ex (xs := ([⟨#[47, 97]⟩, ⟨#[47, 98]⟩, ⟨#[47, 99]⟩] : (List ByteArray))) (j := k) (by first | omega | (simp <;> omega))
 refine Y.q (goes_sch rfl rfl) rfl (by decide) rfl (q_load rfl ag_9 (.t .z) (WS.oel .z b5)) ?_
 refine Y.sk .g5 ?_
 refine Y.dk rfl rfl .g5 (q_build (cs := [.int .i64 ea, .string eb, .string (⟨#[]⟩), .int .i64 0, .int .i64 0, .slice none 0 0]) rfl bl_158 (pv2 (.t .g3) (.t .z)) rfl) ?_
 refine Y.call (goes_sch rfl rfl) rfl (by decide) rfl (c_call rfl Tryz.func132 rfl rfl (args3 (.t .g8) (.t .z) .c)) .n (fun _ _ hs tr => c_132 (kT_27_mk D (tr.own .g3) (tr.own .g4)) (kT_158_mk (⟨ea, eb, ⟨#[]⟩, 0, 0, []⟩ : DCall) ro_nil (by first | assumption | omega | exact Nat.zero_le _ | decide | (dsimp only; exact names_sl3 _ (List.mem_of_getElem? (by assumption)))) (by first | assumption | omega | exact Nat.zero_le _ | decide | (dsimp only; exact names_sl3 _ (List.mem_of_getElem? (by assumption))))) ro_nil (by assumption)) ?_
 rintro _ _ ⟨ad, b6, hf, hg, hh, hi, rfl, rfl⟩
 refine Y.cat (.c (.c (.c (.c .n)))) ?_
 refine Y.know (WS.oform .z) ?_
 rintro ⟨b7, b8, rfl, ec, ed, ee⟩
 refine Y.know (WS.oform .g1) ?_
 rintro ⟨b9, ca, rfl, ef, eg, eh⟩
 refine Y.know (WS.oform .g2) ?_
 rintro ⟨a5, a6, rfl, ei, ej, ek⟩
 refine Y.know (WS.oform .g3) ?_
 rintro ⟨a7, a8, rfl, em, en, eo⟩
 refine Y.sk .g9 ?_
 refine Y.dk rfl rfl .g9 (q_field rfl (.t .z) (fun w => fv_155_5 w (.int .i64 ad.code) (.int .i64 ad.reply) (.int .i64 ad.val) (.slice b7 ad.bytes.length b8) (.slice b9 ad.names.length ca) (.slice a5 ad.fs.inodes.length a6) (.slice a7 ad.fs.data.length a8))) ?_
 refine Y.es (goes_sch rfl rfl) rfl (esW rfl (.t .g14) (.t .z) .g9 sz_27 rfl rfl) ?_
 refine Y.sl rfl ?_
 refine Y.schN ?_
 refine Y.drawN (by kernel_rfl) ?_
 refine Y.inBN ?_
 exact Y.meet (a5, a6, a7, a8, (z + 1), ad.fs) ⟨by omega, by assumption⟩ (.c .g13 (.c .g14 (.c .g15 (.c .g16 (.c (.s16 .g1) .n))))) (fun _ h => h.sel (.c .z (.c .g2 (.c .g2 (.c .g7 (.c .g3 .n))))))
 refine Y.e (goes_sch rfl rfl) rfl (by decide) rfl (e_buildSliceL (cs := [.string (⟨#[47, 97]⟩), .string (⟨#[47, 98]⟩), .string (⟨#[47, 99]⟩)]) rfl u_63 (inz inf_9) (by decide) (pv3 .c .c .c) rfl rfl (by decide) rfl rfl) ?_
 rintro _ _ ⟨g30, rfl, rfl⟩
 refine Y.sk .g5 ?_
 refine Y.schN ?_
 refine Y.sc [(6, true)] (by kernel_rfl) ?_
 refine Y.turns (c := ownA kSl_9 ([⟨#[47, 97]⟩, ⟨#[47, 98]⟩, ⟨#[47, 99]⟩] : (List ByteArray)) [.slice (some ⟨g30, 0, none⟩) 3 3]) (.c .z .n) (fun w S h => lit_own (xs := ([⟨#[47, 97]⟩, ⟨#[47, 98]⟩, ⟨#[47, 99]⟩] : (List ByteArray))) h rfl (by decide) (by omega) (by omega)) ?_
 refine Y.dk rfl rfl .g5 (q_indexAddr (j := k) rfl u_63 sz_9 (.t .z) (.t .g2) rfl (by first | omega | (simp <;> omega))) ?_
 refine Y.schN ?_
 refine Y.fork2 (i := 3) (j := 7) (by kernel_rfl) ?_ ?_
 refine Y.turns (c := ownA kSl_2 ([2, 1] : (List Int)) [.slice (some ⟨g11, 0, none⟩) 2 2]) (.c .g1 .n) (fun w S h => lit_own (xs := ([2, 1] : (List Int))) h rfl (by simp) (by omega) (by omega)) ?_
 refine Y.call (goes_sch rfl rfl) rfl (by decide) rfl (c_call rfl Tryz.func41 rfl rfl (args2 (.t .g4) (.t .g2))) (.c .g4 .n) (fun _ _ hs tr => c_41 (tr.ctx hcd) (tr.own .z) hs (by omega) (by simp)) ?_
 rintro _ _ ⟨ep, cb, rfl, rfl⟩
 refine Y.cat (.c .n) ?_
 simp only [List.mem_cons, List.not_mem_nil, or_false] at cb
 refine Y.sk .g5 ?_
 refine Y.schN ?_
 refine Y.sc [(7, false), (8, true), (9, false), (10, true), (11, false)] (by kernel_rfl) ?_
 obtain ⟨et, ce⟩ := get_ex (xs := ([⟨#[47, 97]⟩, ⟨#[47, 98]⟩, ⟨#[47, 99]⟩] : (List ByteArray))) (j := k) (by first | omega | (simp <;> omega))
 refine Y.q (goes_sch rfl rfl) rfl (by decide) rfl (q_load rfl ag_9 (.t .g1) (WS.oel .g2 ce)) ?_
 refine Y.sk .g5 ?_
 refine Y.dk rfl rfl .g5 (q_build (cs := [.int .i64 ep, .string et, .string (⟨#[]⟩), .int .i64 0, .int .i64 0, .slice none 0 0]) rfl bl_158 (pv2 (.t .g1) (.t .z)) rfl) ?_
 refine Y.call (goes_sch rfl rfl) rfl (by decide) rfl (c_call rfl Tryz.func132 rfl rfl (args3 (.t .g8) (.t .z) .c)) .n (fun _ _ hs tr => c_132 (kT_27_mk D (tr.own .g3) (tr.own .g4)) (kT_158_mk (⟨ep, et, ⟨#[]⟩, 0, 0, []⟩ : DCall) ro_nil (by first | assumption | omega | exact Nat.zero_le _ | decide | (dsimp only; exact names_sl3 _ (List.mem_of_getElem? (by assumption)))) (by first | assumption | omega | exact Nat.zero_le _ | decide | (dsimp only; exact names_sl3 _ (List.mem_of_getElem? (by assumption))))) ro_nil (by assumption)) ?_
 rintro _ _ ⟨ae, cf, hj, hl, ho, hp, rfl, rfl⟩
 refine Y.cat (.c (.c (.c (.c .n)))) ?_
 refine Y.know (WS.oform .z) ?_
 rintro ⟨cg, ch, rfl, eu, ev, ew⟩
 refine Y.know (WS.oform .g1) ?_
 rintro ⟨ci, cj, rfl, ey, ez, e1⟩
 refine Y.know (WS.oform .g2) ?_
 rintro ⟨a9, ba, rfl, e2, e3, e4⟩
 refine Y.know (WS.oform .g3) ?_
 rintro ⟨bb, bc, rfl, e5, e7, e8⟩
 refine Y.sk .g9 ?_
 refine Y.dk rfl rfl .g9 (q_field rfl (.t .z) (fun w => fv_155_5 w (.int .i64 ae.code) (.int .i64 ae.reply) (.int .i64 ae.val) (.slice cg ae.bytes.length ch) (.slice ci ae.names.length cj) (.slice a9 ae.fs.inodes.length ba) (.slice bb ae.fs.data.length bc))) ?_
 refine Y.es (goes_sch rfl rfl) rfl (esW rfl (.t .g14) (.t .z) .g9 sz_27 rfl rfl) ?_
 refine Y.sl rfl ?_
 refine Y.schN ?_
 refine Y.drawN (by kernel_rfl) ?_
 refine Y.inBN ?_
 exact Y.meet (a9, ba, bb, bc, (z + 1), ae.fs) ⟨by omega, by assumption⟩ (.c .g13 (.c .g14 (.c .g15 (.c .g16 (.c (.s16 .g1) .n))))) (fun _ h => h.sel (.c .z (.c .g2 (.c .g2 (.c .g7 (.c .g2 .n))))))
 obtain ⟨e9, ck⟩ := get_ex (xs := ([⟨#[47, 97]⟩, ⟨#[47, 98]⟩, ⟨#[47, 99]⟩] : (List ByteArray))) (j := k) (by first | omega | (simp <;> omega))
 refine Y.q (goes_sch rfl rfl) rfl (by decide) rfl (q_load rfl ag_9 (.t .z) (WS.oel .z ck)) ?_
 refine Y.sk .g5 ?_
 refine Y.schN ?_
 refine Y.sc [(3, false), (8, true), (9, false), (10, true), (11, false)] (by kernel_rfl) ?_
 refine Y.turns (c := ownA kSl_2 ([2, 1] : (List Int)) [.slice (some ⟨g11, 0, none⟩) 2 2]) (.c .g1 .n) (fun w S h => lit_own (xs := ([2, 1] : (List Int))) h rfl (by simp) (by omega) (by omega)) ?_
 refine Y.call (goes_sch rfl rfl) rfl (by decide) rfl (c_call rfl Tryz.func41 rfl rfl (args2 (.t .g5) (.t .g3))) (.c .g4 .n) (fun _ _ hs tr => c_41 (tr.ctx hcd) (tr.own .z) hs (by omega) (by simp)) ?_
 rintro _ _ ⟨fb, cm, rfl, rfl⟩
 refine Y.cat (.c .n) ?_
 simp only [List.mem_cons, List.not_mem_nil, or_false] at cm
 refine Y.sk .g5 ?_
 refine Y.dk rfl rfl .g5 (q_build (cs := [.int .i64 fb, .string e9, .string (⟨#[]⟩), .int .i64 0, .int .i64 0, .slice none 0 0]) rfl bl_158 (pv2 (.t .z) (.t .g1)) rfl) ?_
 refine Y.call (goes_sch rfl rfl) rfl (by decide) rfl (c_call rfl Tryz.func132 rfl rfl (args3 (.t .g8) (.t .z) .c)) .n (fun _ _ hs tr => c_132 (kT_27_mk D (tr.own .g3) (tr.own .g4)) (kT_158_mk (⟨fb, e9, ⟨#[]⟩, 0, 0, []⟩ : DCall) ro_nil (by first | assumption | omega | exact Nat.zero_le _ | decide | (dsimp only; exact names_sl3 _ (List.mem_of_getElem? (by assumption)))) (by first | assumption | omega | exact Nat.zero_le _ | decide | (dsimp only; exact names_sl3 _ (List.mem_of_getElem? (by assumption))))) ro_nil (by assumption)) ?_
 rintro _ _ ⟨af, cn, hq, hr, ht, hu, rfl, rfl⟩
 refine Y.cat (.c (.c (.c (.c .n)))) ?_
 refine Y.know (WS.oform .z) ?_
 rintro ⟨co, cp, rfl, fc, fd, fe⟩
 refine Y.know (WS.oform .g1) ?_
 rintro ⟨cq, cr, rfl, ff, fg, fh⟩
 refine Y.know (WS.oform .g2) ?_
 rintro ⟨bd, be, rfl, fi, fj, fk⟩
 refine Y.know (WS.oform .g3) ?_
 rintro ⟨bf, bg, rfl, fl, fm, fn⟩
 refine Y.sk .g9 ?_
 refine Y.dk rfl rfl .g9 (q_field rfl (.t .z) (fun w => fv_155_5 w (.int .i64 af.code) (.int .i64 af.reply) (.int .i64 af.val) (.slice co af.bytes.length cp) (.slice cq af.names.length cr) (.slice bd af.fs.inodes.length be) (.slice bf af.fs.data.length bg))) ?_
 refine Y.es (goes_sch rfl rfl) rfl (esW rfl (.t .g14) (.t .z) .g9 sz_27 rfl rfl) ?_
 refine Y.sl rfl ?_
 refine Y.schN ?_
 refine Y.drawN (by kernel_rfl) ?_
 refine Y.inBN ?_
 exact Y.meet (bd, be, bf, bg, (z + 1), af.fs) ⟨by omega, by assumption⟩ (.c .g13 (.c .g14 (.c .g15 (.c .g16 (.c (.s16 .g1) .n))))) (fun _ h => h.sel (.c .z (.c .g2 (.c .g2 (.c .g7 (.c .g2 .n))))))
 refine Y.e (goes_sch rfl rfl) rfl (by decide) rfl (e_buildSliceL (cs := [.string (⟨#[47, 97]⟩), .string (⟨#[47, 98]⟩), .string (⟨#[47, 99]⟩)]) rfl u_63 (inz inf_9) (by decide) (pv3 .c .c .c) rfl rfl (by decide) rfl rfl) ?_
 rintro _ _ ⟨g64, rfl, rfl⟩
 refine Y.sk .g4 ?_
 refine Y.schN ?_
 refine Y.sc [(6, true)] (by kernel_rfl) ?_
 refine Y.turns (c := ownA kSl_9 ([⟨#[47, 97]⟩, ⟨#[47, 98]⟩, ⟨#[47, 99]⟩] : (List ByteArray)) [.slice (some ⟨g64, 0, none⟩) 3 3]) (.c .z .n) (fun w S h => lit_own (xs := ([⟨#[47, 97]⟩, ⟨#[47, 98]⟩, ⟨#[47, 99]⟩] : (List ByteArray))) h rfl (by decide) (by omega) (by omega)) ?_
 refine Y.dk rfl rfl .g4 (q_indexAddr (j := k) rfl u_63 sz_9 (.t .z) (.t .g1) rfl (by first | omega | (simp <;> omega))) ?_
 refine Y.schN ?_
 refine Y.fork2 (i := 2) (j := 7) (by kernel_rfl) ?_ ?_
 refine Y.e (goes_sch rfl rfl) rfl (by decide) rfl (e_buildSliceL (cs := [.int .i64 2, .int .i64 1]) rfl u_36 (inz inf_2) (by decide) (pv2 .c .c) rfl rfl (by decide) rfl rfl) ?_
 rintro _ _ ⟨g66, rfl, rfl⟩
 refine Y.sk .g5 ?_
 refine Y.schN ?_
 refine Y.sc [] (by kernel_rfl) ?_
 refine Y.schN ?_
 refine Y.fork2 (i := 3) (j := 7) (by kernel_rfl) ?_ ?_
 refine Y.turns (c := ownA kSl_2 ([2, 1] : (List Int)) [.slice (some ⟨g66, 0, none⟩) 2 2]) (.c .z .n) (fun w S h => lit_own (xs := ([2, 1] : (List Int))) h rfl (by simp) (by omega) (by omega)) ?_
 refine Y.call (goes_sch rfl rfl) rfl (by decide) rfl (c_call rfl Tryz.func41 rfl rfl (args2 (.t .g4) (.t .z))) (.c .g4 .n) (fun _ _ hs tr => c_41 (tr.ctx hcd) (tr.own .z) hs (by omega) (by simp)) ?_
 rintro _ _ ⟨fo, ct, rfl, rfl⟩
 refine Y.cat (.c .n) ?_
 simp only [List.mem_cons, List.not_mem_nil, or_false] at ct
 refine Y.sk .g5 ?_
 refine Y.schN ?_
 refine Y.sc [(7, false), (8, true), (9, false), (10, true), (11, false)] (by kernel_rfl) ?_
 obtain ⟨fp, cu⟩ := get_ex (xs := ([⟨#[47, 97]⟩, ⟨#[47, 98]⟩, ⟨#[47, 99]⟩] : (List ByteArray))) (j := k) (by first | omega | (simp <;> omega))
 refine Y.q (goes_sch rfl rfl) rfl (by decide) rfl (q_load rfl ag_9 (.t .g2) (WS.oel .g2 cu)) ?_
 refine Y.sk .g5 ?_
 refine Y.dk rfl rfl .g5 (q_build (cs := [.int .i64 fo, .string fp, .string (⟨#[]⟩), .int .i64 0, .int .i64 0, .slice none 0 0]) rfl bl_158 (pv2 (.t .g1) (.t .z)) rfl) ?_
 refine Y.call (goes_sch rfl rfl) rfl (by decide) rfl (c_call rfl Tryz.func132 rfl rfl (args3 (.t .g8) (.t .z) .c)) .n (fun _ _ hs tr => c_132 (kT_27_mk D (tr.own .g3) (tr.own .g4)) (kT_158_mk (⟨fo, fp, ⟨#[]⟩, 0, 0, []⟩ : DCall) ro_nil (by first | assumption | omega | exact Nat.zero_le _ | decide | (dsimp only; exact names_sl3 _ (List.mem_of_getElem? (by assumption)))) (by first | assumption | omega | exact Nat.zero_le _ | decide | (dsimp only; exact names_sl3 _ (List.mem_of_getElem? (by assumption))))) ro_nil (by assumption)) ?_
 rintro _ _ ⟨ag, cv, hv, hw, h0, h1, rfl, rfl⟩
 refine Y.cat (.c (.c (.c (.c .n)))) ?_
 refine Y.know (WS.oform .z) ?_
 rintro ⟨cw, cx, rfl, fq, fr, ft⟩
 refine Y.know (WS.oform .g1) ?_
 rintro ⟨cy, cz, rfl, fu, fv, fw⟩
 refine Y.know (WS.oform .g2) ?_
 rintro ⟨bh, bi, rfl, fx, fy, fz⟩
 refine Y.know (WS.oform .g3) ?_
 rintro ⟨bj, bk, rfl, f0, f1, f2⟩
 refine Y.sk .g9 ?_
 refine Y.dk rfl rfl .g9 (q_field rfl (.t .z) (fun w => fv_155_5 w (.int .i64 ag.code) (.int .i64 ag.reply) (.int .i64 ag.val) (.slice cw ag.bytes.length cx) (.slice cy ag.names.length cz) (.slice bh ag.fs.inodes.length bi) (.slice bj ag.fs.data.length bk))) ?_
 refine Y.es (goes_sch rfl rfl) rfl (esW rfl (.t .g14) (.t .z) .g9 sz_27 rfl rfl) ?_
 refine Y.sl rfl ?_
 refine Y.schN ?_
 refine Y.drawN (by kernel_rfl) ?_
 refine Y.inBN ?_
 exact Y.meet (bh, bi, bj, bk, (z + 1), ag.fs) ⟨by omega, by assumption⟩ (.c .g13 (.c .g14 (.c .g15 (.c .g16 (.c (.s16 .g1) .n))))) (fun _ h => h.sel (.c .z (.c .g2 (.c .g2 (.c .g7 (.c .g2 .n))))))
 obtain ⟨f3, c0⟩ := get_ex (xs := ([⟨#[47, 97]⟩, ⟨#[47, 98]⟩, ⟨#[47, 99]⟩] : (List ByteArray))) (j := k) (by first | omega | (simp <;> omega))
 refine Y.q (goes_sch rfl rfl) rfl (by decide) rfl (q_load rfl ag_9 (.t .g1) (WS.oel .g1 c0)) ?_
 refine Y.sk .g5 ?_
 refine Y.schN ?_
 refine Y.sc [(3, false), (8, true), (9, false), (10, true), (11, false)] (by kernel_rfl) ?_
 refine Y.turns (c := ownA kSl_2 ([2, 1] : (List Int)) [.slice (some ⟨g66, 0, none⟩) 2 2]) (.c .z .n) (fun w S h => lit_own (xs := ([2, 1] : (List Int))) h rfl (by simp) (by omega) (by omega)) ?_
 refine Y.call (goes_sch rfl rfl) rfl (by decide) rfl (c_call rfl Tryz.func41 rfl rfl (args2 (.t .g5) (.t .g1))) (.c .g4 .n) (fun _ _ hs tr => c_41 (tr.ctx hcd) (tr.own .z) hs (by omega) (by simp)) ?_
 rintro _ _ ⟨f4, c1, rfl, rfl⟩
 refine Y.cat (.c .n) ?_
 simp only [List.mem_cons, List.not_mem_nil, or_false] at c1
 refine Y.sk .g5 ?_
 refine Y.dk rfl rfl .g5 (q_build (cs := [.int .i64 f4, .string f3, .string (⟨#[]⟩), .int .i64 0, .int .i64 0, .slice none 0 0]) rfl bl_158 (pv2 (.t .z) (.t .g1)) rfl) ?_
 refine Y.call (goes_sch rfl rfl) rfl (by decide) rfl (c_call rfl Tryz.func132 rfl rfl (args3 (.t .g8) (.t .z) .c)) .n (fun _ _ hs tr => c_132 (kT_27_mk D (tr.own .g3) (tr.own .g4)) (kT_158_mk (⟨f4, f3, ⟨#[]⟩, 0, 0, []⟩ : DCall) ro_nil (by first | assumption | omega | exact Nat.zero_le _ | decide | (dsimp only; exact names_sl3 _ (List.mem_of_getElem? (by assumption)))) (by first | assumption | omega | exact Nat.zero_le _ | decide | (dsimp only; exact names_sl3 _ (List.mem_of_getElem? (by assumption))))) ro_nil (by assumption)) ?_
 rintro _ _ ⟨ah, c2, h2, h3, h4, h5, rfl, rfl⟩
 refine Y.cat (.c (.c (.c (.c .n)))) ?_
 refine Y.know (WS.oform .z) ?_
 rintro ⟨c3, c4, rfl, f5, f6, f7⟩
 refine Y.know (WS.oform .g1) ?_
 rintro ⟨c5, c6, rfl, f8, f9, ga⟩
 refine Y.know (WS.oform .g2) ?_
 rintro ⟨bm, bn, rfl, gb, gc, gd⟩
 refine Y.know (WS.oform .g3) ?_
 rintro ⟨bo, bp, rfl, ge, gf, gg⟩
 refine Y.sk .g9 ?_
 refine Y.dk rfl rfl .g9 (q_field rfl (.t .z) (fun w => fv_155_5 w (.int .i64 ah.code) (.int .i64 ah.reply) (.int .i64 ah.val) (.slice c3 ah.bytes.length c4) (.slice c5 ah.names.length c6) (.slice bm ah.fs.inodes.length bn) (.slice bo ah.fs.data.length bp))) ?_
 refine Y.es (goes_sch rfl rfl) rfl (esW rfl (.t .g14) (.t .z) .g9 sz_27 rfl rfl) ?_
 refine Y.sl rfl ?_
 refine Y.schN ?_
 refine Y.drawN (by kernel_rfl) ?_
 refine Y.inBN ?_
 exact Y.meet (bm, bn, bo, bp, (z + 1), ah.fs) ⟨by omega, by assumption⟩ (.c .g13 (.c .g14 (.c .g15 (.c .g16 (.c (.s16 .g1) .n))))) (fun _ h => h.sel (.c .z (.c .g2 (.c .g2 (.c .g7 (.c .g2 .n))))))
 obtain ⟨gh, c7⟩ := get_ex (xs := ([⟨#[47, 97]⟩, ⟨#[47, 98]⟩, ⟨#[47, 99]⟩] : (List ByteArray))) (j := k) (by first | omega | (simp <;> omega))
 refine Y.q (goes_sch rfl rfl) rfl (by decide) rfl (q_load rfl ag_9 (.t .z) (WS.oel .z c7)) ?_
 refine Y.sk .g4 ?_
 refine Y.schN ?_
 refine Y.sc [(2, false), (3, false), (8, true), (9, false), (10, true), (11, false)] (by kernel_rfl) ?_
 refine Y.e (goes_sch rfl rfl) rfl (by decide) rfl (e_buildSliceL (cs := [.int .i64 2, .int .i64 1]) rfl u_36 (inz inf_2) (by decide) (pv2 .c .c) rfl rfl (by decide) rfl rfl) ?_
 rintro _ _ ⟨g100, rfl, rfl⟩
 refine Y.sk .g5 ?_
 refine Y.turns (c := ownA kSl_2 ([2, 1] : (List Int)) [.slice (some ⟨g100, 0, none⟩) 2 2]) (.c .z .n) (fun w S h => lit_own (xs := ([2, 1] : (List Int))) h rfl (by simp) (by omega) (by omega)) ?_
 refine Y.call (goes_sch rfl rfl) rfl (by decide) rfl (c_call rfl Tryz.func41 rfl rfl (args2 (.t .g5) (.t .z))) (.c .g4 .n) (fun _ _ hs tr => c_41 (tr.ctx hcd) (tr.own .z) hs (by omega) (by simp)) ?_
 rintro _ _ ⟨bq, br, rfl, rfl⟩
 refine Y.cat (.c .n) ?_
 simp only [List.mem_cons, List.not_mem_nil, or_false] at br
 refine Y.sk .g5 ?_
 refine Y.dk rfl rfl .g5 (q_build (cs := [.int .i64 bq, .string gh, .string (⟨#[]⟩), .int .i64 0, .int .i64 0, .slice none 0 0]) rfl bl_158 (pv2 (.t .z) (.t .g2)) rfl) ?_
 refine Y.call (goes_sch rfl rfl) rfl (by decide) rfl (c_call rfl Tryz.func132 rfl rfl (args3 (.t .g8) (.t .z) .c)) .n (fun _ _ hs tr => c_132 (kT_27_mk D (tr.own .g3) (tr.own .g4)) (kT_158_mk (⟨bq, gh, ⟨#[]⟩, 0, 0, []⟩ : DCall) ro_nil (by first | assumption | omega | exact Nat.zero_le _ | decide | (dsimp only; exact names_sl3 _ (List.mem_of_getElem? (by assumption)))) (by first | assumption | omega | exact Nat.zero_le _ | decide | (dsimp only; exact names_sl3 _ (List.mem_of_getElem? (by assumption))))) ro_nil (by assumption)) ?_
 rintro _ _ ⟨aa, b1, gv, gw, gx, gy, rfl, rfl⟩
 refine Y.cat (.c (.c (.c (.c .n)))) ?_
 refine Y.know (WS.oform .z) ?_
 rintro ⟨bs, bt, rfl, c8, c9, da⟩
 refine Y.know (WS.oform .g1) ?_
 rintro ⟨bu, bv, rfl, db, dc, dd⟩
 refine Y.know (WS.oform .g2) ?_
 rintro ⟨ax, ay, rfl, dg, dh, di⟩
 refine Y.know (WS.oform .g3) ?_
 rintro ⟨az, a0, rfl, dj, dp, ds⟩
 refine Y.sk .g9 ?_
 refine Y.dk rfl rfl .g9 (q_field rfl (.t .z) (fun w => fv_155_5 w (.int .i64 aa.code) (.int .i64 aa.reply) (.int .i64 aa.val) (.slice bs aa.bytes.length bt) (.slice bu aa.names.length bv) (.slice ax aa.fs.inodes.length ay) (.slice az aa.fs.data.length a0))) ?_
 refine Y.es (goes_sch rfl rfl) rfl (esW rfl (.t .g14) (.t .z) .g9 sz_27 rfl rfl) ?_
 refine Y.sl rfl ?_
 refine Y.schN ?_
 refine Y.drawN (by kernel_rfl) ?_
 refine Y.inBN ?_
 exact Y.meet (ax, ay, az, a0, (z + 1), aa.fs) ⟨by omega, by assumption⟩ (.c .g13 (.c .g14 (.c .g15 (.c .g16 (.c (.s16 .g1) .n))))) (fun _ h => h.sel (.c .z (.c .g2 (.c .g2 (.c .g7 (.c .g2 .n))))))
 rintro ⟨am, an, ao, ap, x, G⟩ ⟨hx, hG⟩
 refine Y.region (Y.mv rfl .z ?_)
 refine Y.ql rfl (q_add (c := ((k + 1 : Nat) : Int)) rfl (.t .z) .c (wr (by omega) (by omega) (by omega))) ?_
 refine Y.er .g2 (Y.as rfl .z (Y.nil ?_))
 refine Y.again ((k + 1), am, an, ao, ap, x, G) ⟨by omega, by omega, by assumption⟩ (by first | omega | (dsimp only; omega)) (.c .z (.c .g3 (.c .g4 (.c .g5 (.c .g6 .n))))) (fun _ h => h.sel (.c .z (.c .z (.c .z (.c .z (.c .z .n))))))
 refine Y.exit (Y.thenE (Y.thenE (Y.inB (Y.then_ (Y.seq (Y.block ?_))))))
 refine Y.loopi (γ := (Option Addr) × Nat × (Option Addr) × Nat × Int × Int × DFs) (fun ⟨aq, ar, au, av, m, y, E⟩ => [(5, .pointer (some ⟨g9, 0, none⟩)), (4, .pointer (some ⟨g2, 0, none⟩)), (0, .pointer (some ⟨g0, 0, none⟩)), (1, .int .i64 m)]) (fun ⟨aq, ar, au, av, m, y, E⟩ => [rowA g9 27 2 1 [.slice aq E.inodes.length ar, .slice au E.data.length av], ownA kSl_44 E.inodes [.slice aq E.inodes.length ar], ownA kSl_22 E.data [.slice au E.data.length av], rowA g2 27 2 1 [.slice none 0 0, .slice none 0 0], rowA g0 e0 s0 1 ((.slice Ac cd.length cc) :: (.int .i64 y) :: ac)]) (fun ⟨aq, ar, au, av, m, y, E⟩ => (0 ≤ m ∧ m ≤ n) ∧ (a ≤ y ∧ y + 30 * m ≤ a + 3 + 30 * n) ∧ Jf E) (fun ⟨aq, ar, au, av, m, y, E⟩ => m.toNat) (ai, aj, ak, al, n, z, D) ⟨by omega, by omega, by assumption⟩ (.c .g3 (.c .g4 (.c .g5 (.c .g6 .n)))) (fun _ h => h.sel (.c .z (.c .z (.c .z (.c .z (.c .z .n)))))) ?_
 rintro ⟨aq, ar, au, av, m, y, E⟩ ⟨hm, hy, hE⟩
 refine Y.seq (Y.seq (Y.region (Y.mv rfl .g3 (Y.ql rfl (q_gtr rfl (.t .z) .c) (Y.nt ?_)))))
 refine Y.condP (.t .z) (fun dt => ?_) (fun dt => ?_)
 refine Y.skip (Y.then_ (Y.seq (Y.block ?_)))
 refine Y.sel (.c .g1 (.c .g1 (.c .g2 (.c .z (.c .z .n))))) ?_
 refine Y.dr .g3 5 mixo ?_
 refine Y.sc [(0, true), (1, true), (2, false), (3, false), (4, true), (5, false)] (by kernel_rfl) ?_
 refine Y.dk rfl rfl .g3 (qW rfl ag_27 (.t .g2) .z sz_27) (Y.dm rfl rfl .g3 .g5 ?_)
 refine Y.call (goes_sch rfl rfl) rfl (by decide) rfl (c_call rfl Tryz.func133 rfl rfl (args1 (.t .z))) (.c .g2 .n) (fun _ _ hs tr => c_133 (tr.ctx hcd) hs (by omega)) ?_
 rintro _ _ ⟨aw, gz, du, b2, rfl, rfl⟩
 refine Y.cat (.c (.c .n)) ?_
 refine Y.know (WS.oform .z) ?_
 rintro ⟨gi, gj, rfl, dv, dw, dx⟩
 have hp9ca118 : aw.path.size ≤ 140737488351232 := by omega
 have ht9ca118 : aw.to.size ≤ 140737488351232 := by omega
 refine Y.sk .g4 ?_
 refine Y.call (goes_sch rfl rfl) rfl (by decide) rfl (c_call rfl Tryz.func132 rfl rfl (args3 (.t .g2) (.t .z) .c)) .n (fun _ _ hs tr => c_132 (kT_27_mk E (tr.own .g2) (tr.own .g3)) (kT_158_mk aw (tr.own .z) (by first | assumption | omega | exact Nat.zero_le _ | decide | (dsimp only; exact names_sl3 _ (List.mem_of_getElem? (by assumption)))) (by first | assumption | omega | exact Nat.zero_le _ | decide | (dsimp only; exact names_sl3 _ (List.mem_of_getElem? (by assumption))))) ro_nil (by assumption)) ?_
 rintro _ _ ⟨ab, b3, hb, hc, hd, he, rfl, rfl⟩
 refine Y.cat (.c (.c (.c (.c .n)))) ?_
 refine Y.know (WS.oform .z) ?_
 rintro ⟨bw, bx, rfl, dy, dz, d0⟩
 refine Y.know (WS.oform .g1) ?_
 rintro ⟨bz, b0, rfl, d1, d2, d3⟩
 refine Y.know (WS.oform .g2) ?_
 rintro ⟨a1, a2, rfl, d4, d5, d6⟩
 refine Y.know (WS.oform .g3) ?_
 rintro ⟨a3, a4, rfl, d7, d8, d9⟩
 refine Y.sk .g8 ?_
 refine Y.dk rfl rfl .g8 (q_field rfl (.t .z) (fun w => fv_155_5 w (.int .i64 ab.code) (.int .i64 ab.reply) (.int .i64 ab.val) (.slice bw ab.bytes.length bx) (.slice bz ab.names.length b0) (.slice a1 ab.fs.inodes.length a2) (.slice a3 ab.fs.data.length a4))) ?_
 refine Y.es (goes_sch rfl rfl) rfl (esW rfl (.t .g7) (.t .z) .g8 sz_27 rfl rfl) ?_
 refine Y.sl rfl ?_
 refine Y.schN ?_
 refine Y.drawN (by kernel_rfl) ?_
 refine Y.inBN (Y.then_ (Y.region (Y.mv rfl .g10 ?_)))
 refine Y.ql rfl (q_sub (c := m - 1) rfl (.t .z) .c (wr (by omega) (by omega) (by omega))) ?_
 refine Y.er .g12 (Y.as rfl .z (Y.nil ?_))
 refine Y.again (a1, a2, a3, a4, m - 1, du, ab.fs) ⟨by omega, by omega, by assumption⟩ (by first | omega | (dsimp only; omega)) (.c .g10 (.c .g11 (.c .g12 (.c .z .n)))) (fun _ h => h.sel (.c .z (.c .g2 (.c .g2 (.c .g6 (.c .g3 .n))))))
 refine Y.exit (Y.thenE (Y.thenE (Y.inB (Y.then_ (Y.seq (Y.region (Y.ql rfl (qW rfl ag_27 (.t .g2) .z sz_27) ?_)))))))
 refine Y.es (goes_list rfl) rfl (esW rfl (.t .g4) (.t .z) .g3 sz_27 rfl rfl) ?_
 refine Y.nt (Y.ret ?_)
 refine Y.doneS (resW rfl .g4 ag_27 .z sz_27) (.c .g2 (.c .g2 (.c .g2 .n))) ?_
 exact ⟨⟨E.inodes, E.data⟩, _, _, y, ⟨by assumption, by omega, by omega⟩, rfl, rfl⟩

end Go.Proofs.YtmejbfmhaoilmaaGreat

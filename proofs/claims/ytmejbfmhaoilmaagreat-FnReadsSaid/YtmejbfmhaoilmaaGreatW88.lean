/- What is proved: contracts of functions, one a function. No condition. -/
import Derived.Test.YtmejbfmhaoilmaaGreatBase1
import Derived.Test.YtmejbfmhaoilmaaGreatW87
import Derived.Test.YtmejbfmhaoilmaaGreatBase2
namespace Go.Proofs.YtmejbfmhaoilmaaGreat
open Go Go.RowKit
set_option linter.unusedVariables false
set_option linter.unusedSimpArgs false
set_option maxHeartbeats 1000000
set_option maxRecDepth 20000
theorem c_39 {w0 : World} {S0 : Bs} {cd : (List UInt8)} {v0 : Value} (h0 : kSl_5.ro w0 (FF w0 S0) cd [v0]) (hcl : cd.length ≤ 1048576) :
    Calls Tryz.prog 39 #[v0] w0 (TriPost w0 S0 (fun r l => ∃ (f : DFs) (v0_ v1_ : Value) (m0 : Int), (f.inodes.length ≤ 11 ∧ f.data.length ≤ 20 ∧ -1 ≤ m0 ∧ m0 ≤ 12) ∧ r = .tuple #[.agg #[v0_, v1_], .int .i64 m0] ∧ l = [ownA (kfro kSl_44) f.inodes [v0_], ownA (kfro kSl_22) f.data [v1_]])) := by
 obtain ⟨A0, c0, rfl, bm, bn, bo, bp⟩ := ro_form h0
 refine Y.enter (N := 40) Tryz.func39 rfl rfl (by simp) [(0, .slice A0 cd.length c0)] (by simp) (l0 := []) trivial ?_
 refine Y.seq (Y.region ?_)
 refine Y.el rfl (e_alloc rfl z_27 rfl rfl) ?_
 rintro _ _ ⟨g2, rfl, rfl⟩
 refine Y.ql rfl (q_assign rfl .c) (Y.nt (Y.seq (Y.region (Y.mv rfl .g2 ?_))))
 refine Y.cl rfl rfl Tryz.func40 rfl rfl (args1 (.t .z)) .n (fun _ _ hs tr => c_40 (tr.ctx h0)) ?_
 rintro _ _ ⟨g3, rfl, rfl⟩
 refine Y.cat (.c .n) ?_
 refine Y.as rfl .z (Y.nt (Y.seq (Y.region (Y.mv rfl .z ?_))))
 refine Y.cl rfl rfl Tryz.func49 rfl rfl (args1 (.t .z)) (.c .z .n) (fun _ _ hs tr => c_49 (tr.ctx h0) hs (by omega)) ?_
 rintro _ _ ⟨aa, v6, v8, u4, a8, rfl, rfl⟩
 refine Y.cat (.c (.c (.c .n))) ?_
 refine Y.know (WS.kform .z) ?_
 rintro ⟨ac, ad, rfl, a9, ba, bb⟩
 refine Y.know (WS.kform .g1) ?_
 rintro ⟨ae, af, rfl, bc, bd, be⟩
 refine Y.freezeK .z ?_
 intro w0 S0 an ab ah
 replace h0 := an h0
 refine Y.freezeK .z ?_
 intro w0 S0 ag bf ai
 replace ab := ag ab
 replace h0 := ag h0
 refine Y.el rfl (e_alloc rfl z_27 rfl rfl) ?_
 rintro _ _ ⟨g23, rfl, rfl⟩
 refine Y.es (goes_list rfl) rfl (esW rfl (.t .z) (.t .g1) .z sz_27 rfl rfl) ?_
 refine Y.nt (Y.seq (Y.region (Y.mv rfl .g3 (Y.fa rfl .g1 fa_27_0 (Y.ld rfl ag_24 .z .z (Y.ql rfl (q_len rfl u_24 (.t .z)) ?_))))))
 refine Y.ql rfl (q_add (c := ((aa.inodes.length + 2 : Nat) : Int)) rfl (.t .z) .c (wr (by omega) (by omega) (by omega))) ?_
 refine Y.cl rfl rfl Tryz.func42 rfl rfl (args2 (.t .g4) (.t .z)) (.c .g1 .n) (fun _ _ hs tr => c_42 (tr.ctx h0) _ hs (by omega) (by omega)) ?_
 rintro _ _ ⟨bg, h0m24, h1m24, rfl, rfl⟩
 refine Y.cat (.c .n) ?_
 refine Y.ql rfl (q_sub (c := bg - 1) rfl (.t .z) .c (wr (by omega) (by omega) (by omega))) ?_
 refine Y.as rfl .z (Y.nt (Y.seq (Y.seq (Y.region (Y.ql rfl (q_assign rfl .c) (Y.nt ?_))))))
 refine Y.block ?_
 refine Y.loopi (γ := Nat × Int × Int) (fun ⟨k, m, z⟩ => [(7, .int .i64 (k : Int)), (6, .int .i64 m), (5, .pointer (some ⟨g23, 0, none⟩)), (4, .pointer (some ⟨g3, 0, none⟩)), (3, .int .i64 0), (2, .pointer (some ⟨g2, 0, none⟩))]) (fun ⟨k, m, z⟩ => [rowA g3 119 2 1 [.slice A0 cd.length c0, .int .i64 z], rowA g23 27 2 1 [.slice ac aa.inodes.length ad, .slice ae aa.data.length af], rowA g2 27 2 1 [.slice none 0 0, .slice none 0 0]]) (fun ⟨k, m, z⟩ => k ≤ aa.inodes.length ∧ (0 ≤ z ∧ z ≤ 3000 + k) ∧ (-1 ≤ m ∧ m ≤ 12)) (fun ⟨k, m, z⟩ => aa.inodes.length - k) (0, bg - 1, (u4 + 1)) ⟨Nat.zero_le _, by omega, by omega⟩ (.c .z (.c .g1 (.c .g9 (.c .g12 (.c .g15 (.c .g16 .n)))))) (fun _ h => h.sel (.c .z (.c .z (.c .z .n)))) ?_
 rintro ⟨k, m, z⟩ ⟨hk, hz, hm⟩
 refine Y.seq (Y.seq (Y.region (Y.mv rfl .z (Y.fa rfl .g3 fa_27_0 (Y.ld rfl ag_24 .z .g1 (Y.ql rfl (q_len rfl u_24 (.t .z)) (Y.ql rfl (q_lss rfl (.t .g3) (.t .z)) (Y.nil ?_))))))))
 refine Y.then_ ?_
 refine Y.condP (.t .z) (fun bi => ?_) (fun bi => ?_)
 refine Y.skip (Y.then_ (Y.seq (Y.block (Y.seq (Y.region (Y.fa rfl .g7 fa_27_0 (Y.ld rfl ag_24 .z .g1 (Y.mv rfl .g7 ?_))))))))
 obtain ⟨bj, aj, ak⟩ := (ro_he ab) (by omega)
 subst aj
 obtain ⟨bq, a1⟩ := get_ex (xs := aa.inodes) (j := k) (by omega)
 obtain ⟨bh, ao, ap, aq⟩ := ak.elem a1
 obtain ⟨a2, a3, rfl, al, am⟩ := kT_44_ro ao
 obtain ⟨a4, a5, rfl, ar, au, av, aw⟩ := ro_form al
 obtain ⟨a6, a7, rfl, ax, ay, az, a0⟩ := ro_form am
 refine Y.ql rfl (q_indexAddr (j := k) rfl u_24 sz_44 (.t .g1) (.t .z) rfl (by omega)) ?_
 refine Y.fa rfl .z fa_44_0 (Y.le rfl ag_2 .z ap aq (Y.ql rfl (q_eql rfl (.t .z) .c) (Y.mv rfl .z ?_)))
 refine Y.caseP .z (fun g31 => ?_) (fun g31 => ?_)
 refine Y.qg rfl rfl .z rfl rfl rfl (q_move rfl (.t .g16)) ?_
 refine Y.call (goes_listg rfl rfl .g1) rfl (by decide) rfl (c_call rfl Tryz.func87 rfl rfl (args2 (.t .z) .c)) (.c .z .n) (fun _ _ hs tr => c_87 (tr.ctx h0) _ hs (by omega) (by omega)) ?_
 rintro _ _ ⟨br, rfl, rfl⟩
 refine Y.cat (.c .n) ?_
 refine Y.ql rfl (q_pickT rfl (.t .g2) (.t .z)) (Y.nt ?_)
 refine Y.cond (.t .z) (fun bk => ?_) (fun bk => ?_)
 refine Y.region (Y.mv rfl .g16 (Y.er (.s16 .g2) (Y.as rfl .z (Y.nil (Y.inBN (Y.then_ (Y.region (Y.mv rfl (.s16 .g2) ?_))))))))
 refine Y.ql rfl (q_add (c := ((k + 1 : Nat) : Int)) rfl (.t .z) .c (wr (by omega) (by omega) (by omega))) ?_
 refine Y.er (.s16 .g4) (Y.as rfl .z (Y.nil ?_))
 refine Y.again ((k + 1), (k : Int), (z + 1)) ⟨by omega, by omega, by omega⟩ (by first | omega | (dsimp only; omega)) (.c .z (.c .g3 (.c (.s16 .g5) (.c (.s16 .g6) (.c (.s16 .g7) (.c (.s16 .g8) .n)))))) (fun _ h => h.sel (.c .z (.c .z (.c .z .n))))
 refine Y.skip (Y.inBN (Y.then_ (Y.region (Y.mv rfl .g16 ?_))))
 refine Y.ql rfl (q_add (c := ((k + 1 : Nat) : Int)) rfl (.t .z) .c (wr (by omega) (by omega) (by omega))) ?_
 refine Y.er (.s16 .g2) (Y.as rfl .z (Y.nil ?_))
 refine Y.again ((k + 1), m, (z + 1)) ⟨by omega, by omega, by omega⟩ (by first | omega | (dsimp only; omega)) (.c .z (.c (.s16 .g3) (.c (.s16 .g4) (.c (.s16 .g5) (.c (.s16 .g6) (.c (.s16 .g7) .n)))))) (fun _ h => h.sel (.c .z (.c .z (.c .z .n))))
 refine Y.skipl rfl rfl .z rfl rfl (by decide) rfl ?_
 refine Y.skipl rfl rfl .g1 rfl rfl (by decide) rfl ?_
 refine Y.ql rfl (q_pickF rfl (.t .g2) .c) (Y.nt ?_)
 refine Y.condF (.t .z) ?_
 refine Y.skip (Y.inBN (Y.then_ (Y.region (Y.mv rfl .g16 ?_))))
 refine Y.ql rfl (q_add (c := ((k + 1 : Nat) : Int)) rfl (.t .z) .c (wr (by omega) (by omega) (by omega))) ?_
 refine Y.er (.s16 .g2) (Y.as rfl .z (Y.nil ?_))
 refine Y.again ((k + 1), m, z) ⟨by omega, by omega, by omega⟩ (by first | omega | (dsimp only; omega)) (.c .z (.c (.s16 .g3) (.c (.s16 .g4) (.c (.s16 .g5) (.c (.s16 .g6) (.c (.s16 .g7) .n)))))) (fun _ h => h.sel (.c .z (.c .z (.c .z .n))))
 refine Y.exit (Y.thenE (Y.thenE (Y.inB (Y.then_ (Y.seq (Y.region (Y.ql rfl (qW rfl ag_27 (.t .g7) .g1 sz_27) (Y.mv rfl .g7 ?_))))))))
 refine Y.es (goes_list rfl) rfl (esW rfl (.t .g12) (.t .g1) .g2 sz_27 rfl rfl) ?_
 refine Y.er .g11 (Y.as rfl .z (Y.nt (Y.ret ?_)))
 refine Y.upRK [ownA (kfro kSl_44) aa.inodes [.slice ac aa.inodes.length ad], ownA (kfro kSl_22) aa.data [.slice ae aa.data.length af]] (fun l w h => ah _ _ (ai _ _ (h))) ?_
 refine Y.doneS (res_ct (cs := [.slice ac aa.inodes.length ad, .slice ae aa.data.length af]) rfl .g12 ag_27 sz_27 (WS.rows0 (cs := [.slice ac aa.inodes.length ad, .slice ae aa.data.length af]) .z (fun _ _ h => h)) .z) .n ?_
 exact ⟨aa, _, _, m, ⟨by first | assumption | omega | decide | (simp <;> omega), by first | assumption | omega | decide | (simp <;> omega), by first | assumption | omega | decide | (simp <;> omega)⟩, rfl, rfl⟩

theorem c_9 {w0 : World} {S0 : Bs} {cd : (List UInt8)} {v0 : Value} (h0 : kSl_5.ro w0 (FF w0 S0) cd [v0]) (hcl : cd.length ≤ 1048576) :
    Calls Tryz.prog 9 #[v0] w0 (TriPost w0 S0 (fun r l => ∃ (f : DFs) (v0_ v1_ : Value) (m0 : Int) (m1 : Int) (m2 : Int), (f.inodes.length ≤ 11 ∧ f.data.length ≤ 20 ∧ -1 ≤ m0 ∧ m0 ≤ 12 ∧ -1 ≤ m1 ∧ m1 ≤ 1001 ∧ -1 ≤ m2 ∧ m2 ≤ 101) ∧ r = .tuple #[.agg #[v0_, v1_], .int .i64 m0, .int .i64 m1, .int .i64 m2] ∧ l = [ownA (kfro kSl_44) f.inodes [v0_], ownA (kfro kSl_22) f.data [v1_]])) := by
 obtain ⟨A0, c0, rfl, az, a0, a1, a2⟩ := ro_form h0
 refine Y.enter (N := 30) Tryz.func9 rfl rfl (by simp) [(0, .slice A0 cd.length c0)] (by simp) (l0 := []) trivial ?_
 refine Y.seq (Y.region ?_)
 refine Y.el rfl (e_alloc rfl z_27 rfl rfl) ?_
 rintro _ _ ⟨g2, rfl, rfl⟩
 refine Y.ql rfl (q_assign rfl .c) (Y.ql rfl (q_assign rfl .c) (Y.ql rfl (q_assign rfl .c) (Y.nt (Y.seq (Y.region (Y.mv rfl .g4 ?_))))))
 refine Y.cl rfl rfl Tryz.func39 rfl rfl (args1 (.t .z)) .n (fun _ _ hs tr => c_39 (tr.ctx h0) (by omega)) ?_
 rintro _ _ ⟨aa, v4, v6, m8, aj, rfl, rfl⟩
 refine Y.cat (.c (.c .n)) ?_
 refine Y.know (WS.kform .z) ?_
 rintro ⟨ae, af, rfl, aq, ar, au⟩
 refine Y.know (WS.kform .g1) ?_
 rintro ⟨ab, ac, rfl, ak, al, am⟩
 refine Y.mv rfl .z (Y.ql rfl (q_extract (v := .agg #[.slice ae aa.inodes.length af, .slice ab aa.data.length ac]) rfl (.t .z) rfl) (Y.ql rfl (q_extract (v := .int .i64 m8) rfl (.t .g1) rfl) ?_))
 refine Y.el rfl (e_alloc rfl z_27 rfl rfl) ?_
 rintro _ _ ⟨g11, rfl, rfl⟩
 refine Y.es (goes_list rfl) rfl (esW rfl (.t .z) (.t .g2) .z sz_27 rfl rfl) ?_
 refine Y.as rfl .g1 (Y.nt (Y.seq (Y.region ?_)))
 refine Y.el rfl (e_buildSliceL (cs := [.int .u8 3]) rfl u_22 (inz inf_5) (by decide) (pv1 .c) rfl rfl (by decide) rfl rfl) ?_
 rintro _ _ ⟨g12, rfl, rfl⟩
 refine Y.mv rfl .g12 ?_
 refine Y.turns (c := ownA kSl_5 ([(3 : UInt8)] : (List UInt8)) [.slice (some ⟨g12, 0, none⟩) 1 1]) (.c .z .n) (fun w S h => lit_own (xs := ([(3 : UInt8)] : (List UInt8))) h rfl (by simp) (by omega) (by omega)) ?_
 refine Y.el rfl (e_appendF (flat_scalar _ _ _) rfl u_22 inf_5 rfl (.t .g1) (.t .z) (.c .z .n) (fun w1 S1 tr => tr.ctx h0) (by first | omega | (simp <;> omega)) (by first | omega | (simp <;> omega))) ?_
 rintro _ _ rfl
 refine Y.know (WS.oform .z) ?_
 rintro ⟨av, aw, rfl, an, ao, ap⟩
 refine Y.cl rfl rfl Tryz.func40 rfl rfl (args1 (.t .z)) .n (fun _ _ hs tr => c_40 (tr.own .z)) ?_
 rintro _ _ ⟨g15, rfl, rfl⟩
 refine Y.cat (.c .n) ?_
 refine Y.as rfl .z (Y.nt (Y.seq ?_))
 refine Y.sel (.c .z (.c .z (.c .g1 (.c .g1 (.c .g1 (.c .z .n)))))) ?_
 refine Y.dr .g5 15 mixo ?_
 refine Y.sc (qs 0 4 ++ [(7, true), (8, true), (4, false), (5, false), (6, false), (9, false), (10, false), (11, false), (12, false), (13, true), (14, true), (15, false)]) (by kernel_rfl) ?_
 refine Y.dk rfl rfl .g5 (qW rfl ag_27 (.t .g6) .z sz_27) (Y.dm rfl rfl .g5 .g6 (Y.dm rfl rfl .g5 .g2 (Y.dm rfl rfl .g5 .g3 (Y.dm rfl rfl .g5 .g4 (Y.dm rfl rfl .g5 .g5 ?_)))))
 refine Y.call (goes_sch rfl rfl) rfl (by decide) rfl (c_call rfl Tryz.func42 rfl rfl (args2 (.t .g2) .c)) (.c .z .n) (fun _ _ hs tr => c_42 (tr.own .z) _ hs (by omega) (by omega)) ?_
 rintro _ _ ⟨ad, h0m16, h1m16, rfl, rfl⟩
 refine Y.cat (.c .n) ?_
 refine Y.sk .g5 ?_
 refine Y.e (goes_sch rfl rfl) rfl (by decide) rfl (e_buildSliceL (ps := [(0, .int .i64 0), (1, .int .i64 ad), (2, .int .i64 1000), (3, .int .i64 1001), (4, .int .i64 (-1))]) (cs := [.int .i64 0, .int .i64 ad, .int .i64 1000, .int .i64 1001, .int .i64 (-1)]) rfl u_36 (inz inf_2) (by decide) (by intro act hact; simp only [List.map_toArray, List.map_cons, List.map_nil, (show Val _ _ _ from .c) act hact, (show Val _ _ _ from (.t .z)) act hact, (show Val _ _ _ from .c) act hact, (show Val _ _ _ from .c) act hact, (show Val _ _ _ from .c) act hact]) rfl rfl (by decide) rfl rfl) ?_
 rintro _ _ ⟨g17, rfl, rfl⟩
 refine Y.sk .g6 ?_
 refine Y.turns (c := ownA kSl_2 ([0, ad, 1000, 1001, (-1)] : (List Int)) [.slice (some ⟨g17, 0, none⟩) 5 5]) (.c .z .n) (fun w S h => lit_own (xs := ([0, ad, 1000, 1001, (-1)] : (List Int))) h rfl (by simp) (by omega) (by omega)) ?_
 refine Y.call (goes_sch rfl rfl) rfl (by decide) rfl (c_call rfl Tryz.func41 rfl rfl (args2 (.t .g5) (.t .z))) (.c .g1 .n) (fun _ _ hs tr => c_41 (tr.own .g1) (tr.own .z) hs (by omega) (by simp)) ?_
 rintro _ _ ⟨ax, ag, rfl, rfl⟩
 refine Y.cat (.c .n) ?_
 simp only [List.mem_cons, List.not_mem_nil, or_false] at ag
 refine Y.sk .g6 ?_
 refine Y.call (goes_sch rfl rfl) rfl (by decide) rfl (c_call rfl Tryz.func42 rfl rfl (args2 (.t .g3) .c)) (.c .z .n) (fun _ _ hs tr => c_42 (tr.own .g1) _ hs (by omega) (by omega)) ?_
 rintro _ _ ⟨ah, h0m20, h1m20, rfl, rfl⟩
 refine Y.cat (.c .n) ?_
 refine Y.sk .g6 ?_
 refine Y.e (goes_sch rfl rfl) rfl (by decide) rfl (e_buildSliceL (cs := [.int .i64 ah, .int .i64 100, .int .i64 101, .int .i64 (-1)]) rfl u_36 (inz inf_2) (by decide) (pv4 (.t .z) .c .c .c) rfl rfl (by decide) rfl rfl) ?_
 rintro _ _ ⟨g21, rfl, rfl⟩
 refine Y.sk .g7 ?_
 refine Y.turns (c := ownA kSl_2 ([ah, 100, 101, (-1)] : (List Int)) [.slice (some ⟨g21, 0, none⟩) 4 4]) (.c .z .n) (fun w S h => lit_own (xs := ([ah, 100, 101, (-1)] : (List Int))) h rfl (by simp) (by omega) (by omega)) ?_
 refine Y.call (goes_sch rfl rfl) rfl (by decide) rfl (c_call rfl Tryz.func41 rfl rfl (args2 (.t .g6) (.t .z))) (.c .g1 .n) (fun _ _ hs tr => c_41 (tr.own .g2) (tr.own .z) hs (by omega) (by simp)) ?_
 rintro _ _ ⟨ay, ai, rfl, rfl⟩
 refine Y.cat (.c .n) ?_
 simp only [List.mem_cons, List.not_mem_nil, or_false] at ai
 refine Y.sk .g7 ?_
 refine Y.es (goes_sch rfl rfl) rfl (esW rfl (.t (.s16 .g11)) (.t .g11) .g6 sz_27 rfl rfl) ?_
 refine Y.sk .g7 ?_
 refine Y.er (.s16 .g10) (Y.dk rfl rfl .g7 (q_assign rfl (.t .g10)) (Y.er (.s16 .g10) (Y.dk rfl rfl .g7 (q_assign rfl (.t .g4)) (Y.er (.s16 .g10) ?_))))
 refine Y.q (goes_sch rfl rfl) rfl (by decide) rfl (q_assign rfl (.t .g2)) ?_
 refine Y.sl rfl ?_
 refine Y.schN ?_
 refine Y.drawN (by kernel_rfl) ?_
 refine Y.then_ (Y.ret ?_)
 refine Y.doneS (res_cttt (cs := [.slice ae aa.inodes.length af, .slice ab aa.data.length ac]) rfl (.s16 .g11) ag_27 sz_27 (WS.rows0 (cs := [.slice ae aa.inodes.length af, .slice ab aa.data.length ac]) .z (fun _ _ h => h)) .g2 .g1 .z) (.c .g5 (.c .g5 .n)) ?_
 exact ⟨aa, _, _, m8, ax, ay, ⟨by first | assumption | omega | decide | (simp <;> omega), by first | assumption | omega | decide | (simp <;> omega), by first | assumption | omega | decide | (simp <;> omega), by first | assumption | omega | decide | (simp <;> omega), by first | assumption | omega | decide | (simp <;> omega)⟩, rfl, rfl⟩

end Go.Proofs.YtmejbfmhaoilmaaGreat

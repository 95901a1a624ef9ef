/- What is proved: contracts of functions, one a function. No condition. -/
import Derived.Test.YtmejbfmhaoilmaaGreatBase1
import Derived.Test.YtmejbfmhaoilmaaGreatW33
import Derived.Test.YtmejbfmhaoilmaaGreatBase2
namespace Go.Proofs.YtmejbfmhaoilmaaGreat
open Go Go.RowKit
set_option linter.unusedVariables false
set_option linter.unusedSimpArgs false
set_option maxHeartbeats 1000000
set_option maxRecDepth 20000
theorem c_178 {w0 : World} {S0 : Bs} {f : DFs} {g0 e0 s0 : Nat} {ad : List Value} {an : Value} {ao : Value} (a : Int) (i : Nat) (hs : Star [rowA g0 e0 s0 1 (an :: ao :: ad), ownA kSl_44 f.inodes [an], ownA kSl_22 f.data [ao]] w0 S0) (hp : placeIn f.inodes.length a) (hi : i < (entsAt f.inodes a).length) :
    Calls Tryz.prog 178 #[.pointer (some ⟨g0, 0, none⟩), .int .i64 a, .int .i64 (i : Int)] w0 (TriPost w0 S0 (fun r l => ∃ v0 v1, r = .int .i64 (inoAt (entsAt f.inodes a) i) ∧ l = [rowA g0 e0 s0 1 (v0 :: v1 :: ad), ownA kSl_44 ((takeF f a (List.eraseIdx (entsAt f.inodes a) i))).inodes [v0], ownA kSl_22 ((takeF f a (List.eraseIdx (entsAt f.inodes a) i))).data [v1]])) := by
 obtain ⟨bv, bw⟩ := hp
 refine Y.enter (N := 40) Tryz.func178 rfl rfl (by simp) [(0, .pointer (some ⟨g0, 0, none⟩)), (1, .int .i64 a), (2, .int .i64 (i : Int))] (by simp) hs ?_
 refine Y.know (WS.oform .g1) ?_
 rintro ⟨bx, au, rfl, bf, bg, bh⟩
 refine Y.know (WS.oform .g2) ?_
 rintro ⟨bz, b0, rfl, bi, bj, bk⟩
 refine Y.seq (Y.region (Y.ql rfl (q_assign rfl .c) (Y.nt (Y.seq (Y.region (Y.mv rfl .g1 (Y.nc rfl .z ?_)))))))
 refine Y.fa rfl .z fa_27_0 (Y.ld rfl ag_24 .z .z (Y.mv rfl .g6 ?_))
 refine Y.open (.c .g1 .n) own_raw ?_
 rintro a1 ae
 obtain ⟨y4, ah⟩ := get_ex (xs := f.inodes) (j := Int.toNat a) (by omega)
 obtain ⟨c5, av⟩ := get_ex (xs := a1) (j := Int.toNat a) (by rw [ae]; exact (List.getElem?_eq_some_iff.1 ah).1)
 refine Y.turn .g1 (seq_split ah av) ?_
 refine Y.open (.c .z .n) kT_44_op ?_
 rintro ⟨v6, v7⟩ rfl
 refine Y.know (WS.oform .z) ?_
 rintro ⟨ap, aq, rfl, a2, a3, a4⟩
 refine Y.know (WS.oform .g1) ?_
 rintro ⟨bm, ai, rfl, a5, a6, a7⟩
 have b1 := kind_at (i := a) ah (by omega)
 have aw := ents_at (a := a) ah (by omega)
 have b2 := links_at (a := a) ah (by omega)
 have a8 : (entsAt f.inodes a).length = y4.ents.length := by rw [aw]
 refine Y.know (WS.oad .g4 (by omega)) ?_
 rintro ⟨aj, rfl⟩
 refine Y.ql rfl (q_indexAddr (j := Int.toNat a) rfl u_24 sz_44 (.t .g1) (.t .z) (by omega) (by omega)) ?_
 refine Y.fa rfl .z fa_44_4 (Y.ql rfl (q_load rfl ag_42 (.t .z) (WS.raw .g4 av rfl)) (Y.as rfl .z (Y.nt (Y.seq (Y.region (Y.mv rfl .z (Y.mv rfl .g13 ?_)))))))
 refine Y.open (.c .g1 .n) own_raw ?_
 rintro ax aa
 obtain ⟨ar, ac⟩ := get_ex (xs := y4.ents) (j := i) (by omega)
 obtain ⟨b3, ak⟩ := get_ex (xs := ax) (j := i) (by rw [aa]; exact (List.getElem?_eq_some_iff.1 ac).1)
 refine Y.turn .g1 (seq_split ac ak) ?_
 refine Y.open (.c .z .n) kT_46_op ?_
 rintro ⟨⟩ ⟨rfl, ay⟩
 refine Y.know (WS.oad .g2 (by omega)) ?_
 rintro ⟨ab, rfl⟩
 refine Y.ql rfl (q_indexAddr (j := i) rfl u_42 sz_46 (.t .g1) (.t .z) rfl (by omega)) ?_
 refine Y.fa rfl .z fa_46_1 (Y.ql rfl (q_load rfl ag_2 (.t .z) (WS.raw .g2 ak rfl)) (Y.as rfl .z (Y.nt (Y.seq ?_))))
 refine Y.turns (c := ownA kT_46 ar [.string ar.name, .int .i64 ar.ino]) .n (fun w S h => kT_46_omk ar h (by assumption)) ?_
 refine Y.turns (c := ownA kSl_46 y4.ents [.slice (some ab) y4.ents.length ai]) (.c .g3 (.c .z (.c .z (.c .z .n)))) (own_unfocus0 (K := kT_46) aa ac ak) ?_
 refine Y.sel (.c .z (.c .z (.c .g4 (.c .z (.c .z (.c .z (.c .z .n))))))) ?_
 refine Y.dr .g3 17 mixo ?_
 refine Y.sc (qs 0 5 ++ qs 6 3 ++ qs 10 4 ++ [(5, false), (9, false), (14, false), (15, false), (16, true), (17, false)]) (by kernel_rfl) ?_
 refine Y.dm rfl rfl .g3 .g16 (Y.dn rfl rfl .g3 .z (Y.df rfl rfl .g3 .z fa_27_0 (Y.dl rfl rfl .g3 ag_24 .z .g3 (Y.dm rfl rfl .g3 (.s16 .g5) (Y.dm rfl rfl .g3 .g11 (Y.dm rfl rfl .g3 (.s16 .g8) ?_))))))
 obtain ⟨bn, af⟩ : ∃ A' : Option Addr, A' = (if ai = 0 then (some ab) else Option.map (fun z => Addr.add z (0 * 2)) (some ab)) := ⟨_, rfl⟩
 have bo := subL_len (xs := y4.ents) (a := 0) (b := i) (by omega)
 have bp : True := trivial
 refine Y.dk rfl rfl .g3 (q_sliceL (a := 0) (b := i) rfl u_42 sz_46 (.t .g1) af (.inl ⟨rfl, rfl⟩) (.inr ⟨_, _, rfl, (.t .z)⟩) (by omega) (by omega) (by omega)) ?_
 refine Y.dm rfl rfl .g3 .g14 (Y.dm rfl rfl .g3 (.s16 .g11) ?_)
 refine Y.dk rfl rfl .g3 (q_add (c := ((i + 1 : Nat) : Int)) rfl (.t .z) .c (wr (by omega) (by omega) (by omega))) ?_
 obtain ⟨bq, ag⟩ : ∃ A' : Option Addr, A' = (if ai = i + 1 then (some ab) else Option.map (fun z => Addr.add z ((i + 1) * 2)) (some ab)) := ⟨_, rfl⟩
 have br := subL_len (xs := y4.ents) (a := i + 1) (b := y4.ents.length) (by omega)
 have bs : True := trivial
 refine Y.dk rfl rfl .g3 (q_sliceL (a := i + 1) (b := y4.ents.length) rfl u_42 sz_46 (.t .g2) ag (.inr ⟨_, _, rfl, (.t .z)⟩) (.inl ⟨rfl, rfl⟩) (by omega) (by omega) (by omega)) ?_
 refine Y.e (goes_sch rfl rfl) rfl (by decide) rfl (e_buildNil rfl u_42 (inz inf_46)) ?_
 rintro _ _ ⟨g24, rfl, rfl⟩
 refine Y.sk .g4 ?_
 refine Y.add (c := ownA kSl_46 ([] : (List DEnt)) [.slice (some ⟨g24, 0, none⟩) 0 0]) (fun w S => own_nil w S _) ?_
 refine Y.e (goes_sch rfl rfl) rfl (by decide) rfl (e_appendF (flat_iso _ (flat_pair (flat_scalar _ _ _) (flat_scalar _ _ _))) rfl u_42 inf_46 rfl (.t .z) (.t .g5) (.c .z .n) (fun w1 S1 tr => (ro_sub (a := 0) (b := i) af (tr.own .g1) (by omega) (by omega))) (by first | omega | (simp only [List.length_append, List.length_take, List.length_nil, List.length_cons]; omega)) (by first | omega | (simp only [List.length_append, List.length_take, List.length_nil, List.length_cons]; omega))) ?_
 rintro _ _ rfl
 refine Y.ceq .z (List.nil_append _) ?_
 refine Y.know (WS.oform .z) ?_
 rintro ⟨bt, bu, rfl, a9, ba, bb⟩
 refine Y.sk .g5 ?_
 refine Y.e (goes_sch rfl rfl) rfl (by decide) rfl (e_appendF (flat_iso _ (flat_pair (flat_scalar _ _ _) (flat_scalar _ _ _))) rfl u_42 inf_46 rfl (.t .z) (.t .g2) (.c .z .n) (fun w1 S1 tr => (ro_sub (a := i + 1) (b := y4.ents.length) ag (tr.own .g1) (by omega) (by omega))) (by first | omega | (simp only [List.length_append, List.length_take, List.length_nil, List.length_cons]; omega)) (by first | omega | (simp only [List.length_append, List.length_take, List.length_nil, List.length_cons]; omega))) ?_
 rintro _ _ rfl
 refine Y.ceq .z (subL_erase _ _) ?_
 refine Y.know (WS.oform .z) ?_
 rintro ⟨al, am, rfl, bc, bd, be⟩
 refine Y.sk .g5 ?_
 refine Y.q (goes_sch rfl rfl) rfl (by decide) rfl (q_indexAddr (j := Int.toNat a) rfl u_24 sz_44 (.t .g11) (.t .g10) (by omega) (by omega)) ?_
 refine Y.sk .g5 ?_
 refine Y.df rfl rfl .g5 .z fa_44_4 ?_
 refine Y.es (goes_sch rfl rfl) rfl (es_raw (j := Int.toNat a) (off := 4) (cs := [.slice al (List.eraseIdx y4.ents i).length am]) rfl sz_42 (.t .z) (add_add _ _ _) (.t .g2) rfl (ones rfl) .g7 av (Nat.le_of_ble_eq_true rfl)) ?_
 refine Y.ceq (x' := List.set a1 (Int.toNat a) [.int .i64 y4.kind, .int .i64 y4.links, .int .i64 y4.size, .slice ap y4.blocks.length aq, .slice al (List.eraseIdx y4.ents i).length am]) .z rfl ?_
 refine Y.sl rfl ?_
 refine Y.schN ?_
 refine Y.drawN (by kernel_rfl) ?_
 refine Y.then_ (Y.seq (Y.region (Y.mv rfl (.s16 .g1) (Y.er (.s16 (.s16 .g1)) (Y.as rfl .z (Y.nt (Y.ret ?_)))))))
 refine Y.turns (c := ownA kT_44 (⟨y4.kind, y4.links, y4.size, y4.blocks, List.eraseIdx y4.ents i⟩ : DInode) [.int .i64 y4.kind, .int .i64 y4.links, .int .i64 y4.size, .slice ap y4.blocks.length aq, .slice al (List.eraseIdx y4.ents i).length am]) (.c .g4 (.c .g1 .n)) (fun w S h => kT_44_omk (⟨y4.kind, y4.links, y4.size, y4.blocks, List.eraseIdx y4.ents i⟩ : DInode) h) ?_
 refine Y.turns (c := ownA kSl_44 (List.set f.inodes (Int.toNat a) (⟨y4.kind, y4.links, y4.size, y4.blocks, List.eraseIdx y4.ents i⟩ : DInode)) [.slice (some aj) f.inodes.length au]) (.c .g1 (.c .z (.c .g3 (.c .g3 .n)))) (own_unfocus (K := kT_44) ae (List.getElem?_eq_some_iff.1 ah).1 rfl) ?_
 have az : List.set f.inodes (Int.toNat a) (⟨y4.kind, y4.links, y4.size, y4.blocks, List.eraseIdx y4.ents i⟩ : DInode) = withE f.inodes a (List.eraseIdx y4.ents i) := (withE_at ah (by omega))
 refine Y.chEq .z (congrArg (fun z_ => (ownA kSl_44 (z_) [.slice (some aj) f.inodes.length au] : Asn)) az) ?_
 have a0 : withE f.inodes a (List.eraseIdx y4.ents i) = withE f.inodes a (List.eraseIdx (entsAt f.inodes a) i) := (by rw [aw])
 refine Y.chEq .z (congrArg (fun z_ => (ownA kSl_44 (z_) [.slice (some aj) f.inodes.length au] : Asn)) a0) ?_
 refine Y.doneS (res1 rfl .z) (.c .g4 (.c .z (.c .g2 .n))) ?_
 exact ⟨_, _, by rw [aw, inoAt_of ac], rfl⟩

end Go.Proofs.YtmejbfmhaoilmaaGreat

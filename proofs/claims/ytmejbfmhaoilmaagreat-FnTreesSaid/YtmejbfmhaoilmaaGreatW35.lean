/- What is proved: contracts of functions, one a function. No condition. -/
import Derived.Test.YtmejbfmhaoilmaaGreatBase1
import Derived.Test.YtmejbfmhaoilmaaGreatW34
import Derived.Test.YtmejbfmhaoilmaaGreatW32
namespace Go.Proofs.YtmejbfmhaoilmaaGreat
open Go Go.RowKit
set_option linter.unusedVariables false
set_option linter.unusedSimpArgs false
set_option maxHeartbeats 1000000
set_option maxRecDepth 20000
theorem c_197 {w0 : World} {S0 : Bs} {f : DFs} {g0 e0 s0 : Nat} {ak : List Value} {an : Value} {ao : Value} (k : Int) (hs : Star [rowA g0 e0 s0 1 (an :: ao :: ak), ownA kSl_44 f.inodes [an], ownA kSl_22 f.data [ao]] w0 S0) (hq : LessPre f k) :
    Calls Tryz.prog 197 #[.pointer (some ⟨g0, 0, none⟩), .int .i64 k] w0 (TriPost w0 S0 (PA_27 g0 e0 s0 ak (lessF f k))) := by
 obtain ⟨b5, b6⟩ := hq.p
 have hd := hq.d
 have hb := hq.b
 have ay := hq.l
 have hkl := hq.k
 refine Y.enter (N := 50) Tryz.func197 rfl rfl (by simp) [(0, .pointer (some ⟨g0, 0, none⟩)), (1, .int .i64 k)] (by simp) hs ?_
 refine Y.know (WS.oform .g1) ?_
 rintro ⟨b7, al, rfl, bn, bo, bp⟩
 refine Y.know (WS.oform .g2) ?_
 rintro ⟨b8, b9, rfl, bq, br, bs⟩
 refine Y.seq (Y.seq (Y.region (Y.mv rfl .z (Y.nc rfl .z (Y.fa rfl .z fa_27_0 (Y.ld rfl ag_24 .z .z (Y.mv rfl .g5 ?_)))))))
 refine Y.open (.c .g1 .n) own_raw ?_
 rintro a3 ad
 obtain ⟨y4, af⟩ := get_ex (xs := f.inodes) (j := Int.toNat k) (by first | omega | (simp only [takeF, withE_len, withL_len]; omega))
 obtain ⟨c5, am⟩ := get_ex (xs := a3) (j := Int.toNat k) (by rw [ad]; exact (List.getElem?_eq_some_iff.1 af).1)
 refine Y.turn .g1 (seq_split af am) ?_
 refine Y.open (.c .z .n) kT_44_op ?_
 rintro ⟨v6, v7⟩ rfl
 refine Y.know (WS.oform .z) ?_
 rintro ⟨ag, ah, rfl, a4, a5, a6⟩
 refine Y.know (WS.oform .g1) ?_
 rintro ⟨ai, aj, rfl, a7, a8, a9⟩
 have ca := kind_at (i := k) af (by omega)
 have cb := ents_at (a := k) af (by omega)
 have ax := links_at (a := k) af (by omega)
 refine Y.know (WS.oad .g4 (by omega)) ?_
 rintro ⟨ab, rfl⟩
 refine Y.ql rfl (q_indexAddr (j := Int.toNat k) rfl u_24 sz_44 (.t .g1) (.t .z) (by omega) (by first | omega | (simp only [takeF, withE_len, withL_len]; omega))) ?_
 refine Y.fa rfl .z fa_44_0 (Y.ql rfl (q_load rfl ag_2 (.t .z) (WS.raw .g4 am rfl)) (Y.ql rfl (q_neq rfl (.t .z) .c) (Y.nt ?_)))
 refine Y.condN (.t .z) (fun bt => ?_) (fun bt => ?_)
 refine Y.ret (Y.thenR ?_)
 refine Y.turns (c := ownA kT_44 y4 [.int .i64 y4.kind, .int .i64 y4.links, .int .i64 y4.size, .slice ag y4.blocks.length ah, .slice ai y4.ents.length aj]) (.c .z (.c .z .n)) (fun w S h => kT_44_omk y4 h) ?_
 refine Y.turns (c := ownA kSl_44 f.inodes [.slice (some ab) f.inodes.length al]) (.c .g3 (.c .z (.c .z (.c .z .n)))) (own_unfocus0 (K := kT_44) ad af am) ?_
 refine Y.doneS (res0 rfl) (.c .g1 (.c .z (.c .z .n))) ?_
 exact ⟨_, _, rfl, by first | (rw [lessF_k (by omega)]; done) | (rw [lessF_l (by omega) (by omega), ax]; done) | (rw [lessF_s (by omega) (by omega) (by omega)]; done) | (rw [lessF_d (by omega) (by omega) (by omega), ← dropF_withL (f := f) (k := k) (n := y4.links - 1)]; done) | (rw [lessF_d (by omega) (by omega) (by omega)]; done)⟩
 refine Y.skip (Y.then_ (Y.seq (Y.region (Y.mv rfl .g9 (Y.nc rfl .z (Y.fa rfl .z fa_27_0 (Y.ld rfl ag_24 .z .g5 (Y.mv rfl .g14 ?_))))))))
 refine Y.ql rfl (q_indexAddr (j := Int.toNat k) rfl u_24 sz_44 (.t .g1) (.t .z) (by omega) (by first | omega | (simp only [takeF, withE_len, withL_len]; omega))) ?_
 refine Y.fa rfl .z fa_44_1 (Y.ql rfl (q_load rfl ag_2 (.t .z) (WS.raw .g4 am rfl)) ?_)
 refine Y.ql rfl (q_sub (c := y4.links - 1) rfl (.t .z) .c (wr (by omega) (by omega) (by omega))) ?_
 refine Y.ql rfl (q_indexAddr (j := Int.toNat k) rfl u_24 sz_44 (.t .g5) (.t .g4) (by omega) (by first | omega | (simp only [takeF, withE_len, withL_len]; omega))) ?_
 refine Y.fa rfl .z fa_44_1 ?_
 refine Y.es (goes_list rfl) rfl (es_raw (j := Int.toNat k) (off := 1) (cs := [.int .i64 (y4.links - 1)]) rfl sz_2 (.t .z) (add_add _ _ _) (.t .g2) rfl (ones rfl) .g4 am (Nat.le_of_ble_eq_true rfl)) ?_
 refine Y.ceq (x' := List.set a3 (Int.toNat k) [.int .i64 y4.kind, .int .i64 (y4.links - 1), .int .i64 y4.size, .slice ag y4.blocks.length ah, .slice ai y4.ents.length aj]) .z rfl ?_
 refine Y.nt (Y.seq (Y.seq (Y.region (Y.mv rfl (.s16 .g4) (Y.nc rfl .z (Y.fa rfl .z fa_27_0 (Y.ld rfl ag_24 .z .g5 ?_)))))))
 refine Y.mv rfl (.s16 .g9) ?_
 refine Y.ql rfl (q_indexAddr (j := Int.toNat k) rfl u_24 sz_44 (.t .g1) (.t .z) (by omega) (by first | omega | (simp only [takeF, withE_len, withL_len]; omega))) ?_
 refine Y.fa rfl .z fa_44_1 (Y.ql rfl (q_load rfl ag_2 (.t .z) (WS.raw .z (set_get am) rfl)) (Y.ql rfl (q_gtr rfl (.t .z) .c) (Y.nt ?_)))
 refine Y.condP (.t .z) (fun bu => ?_) (fun bu => ?_)
 refine Y.ret (Y.thenR ?_)
 refine Y.turns (c := ownA kT_44 (⟨y4.kind, y4.links - 1, y4.size, y4.blocks, y4.ents⟩ : DInode) [.int .i64 y4.kind, .int .i64 (y4.links - 1), .int .i64 y4.size, .slice ag y4.blocks.length ah, .slice ai y4.ents.length aj]) (.c .g1 (.c .g1 .n)) (fun w S h => kT_44_omk (⟨y4.kind, y4.links - 1, y4.size, y4.blocks, y4.ents⟩ : DInode) h) ?_
 refine Y.turns (c := ownA kSl_44 (List.set f.inodes (Int.toNat k) (⟨y4.kind, y4.links - 1, y4.size, y4.blocks, y4.ents⟩ : DInode)) [.slice (some ab) f.inodes.length al]) (.c .g1 (.c .z (.c .z (.c .z .n)))) (own_unfocus (K := kT_44) ad (List.getElem?_eq_some_iff.1 af).1 rfl) ?_
 have az : List.set f.inodes (Int.toNat k) (⟨y4.kind, y4.links - 1, y4.size, y4.blocks, y4.ents⟩ : DInode) = withL f.inodes k (y4.links - 1) := (withL_at af (by omega))
 refine Y.chEq .z (congrArg (fun z_ => (ownA kSl_44 (z_) [.slice (some ab) f.inodes.length al] : Asn)) az) ?_
 refine Y.doneS (res0 rfl) (.c .g1 (.c .z (.c .z .n))) ?_
 exact ⟨_, _, rfl, by first | (rw [lessF_k (by omega)]; done) | (rw [lessF_l (by omega) (by omega), ax]; done) | (rw [lessF_s (by omega) (by omega) (by omega)]; done) | (rw [lessF_d (by omega) (by omega) (by omega), ← dropF_withL (f := f) (k := k) (n := y4.links - 1)]; done) | (rw [lessF_d (by omega) (by omega) (by omega)]; done)⟩
 refine Y.skip (Y.then_ (Y.seq (Y.seq (Y.region (Y.mv rfl (.s16 .g13) (Y.nc rfl .z (Y.fa rfl .z fa_27_0 (Y.ld rfl ag_24 .z .g5 ?_))))))))
 refine Y.mv rfl (.s16 (.s16 .g2)) ?_
 refine Y.turns (c := ownA kT_44 (⟨y4.kind, y4.links - 1, y4.size, y4.blocks, y4.ents⟩ : DInode) [.int .i64 y4.kind, .int .i64 (y4.links - 1), .int .i64 y4.size, .slice ag y4.blocks.length ah, .slice ai y4.ents.length aj]) (.c .g1 (.c .g1 .n)) (fun w S h => kT_44_omk (⟨y4.kind, y4.links - 1, y4.size, y4.blocks, y4.ents⟩ : DInode) h) ?_
 refine Y.turns (c := ownA kSl_44 (List.set f.inodes (Int.toNat k) (⟨y4.kind, y4.links - 1, y4.size, y4.blocks, y4.ents⟩ : DInode)) [.slice (some ab) f.inodes.length al]) (.c .g1 (.c .z (.c .z (.c .z .n)))) (own_unfocus (K := kT_44) ad (List.getElem?_eq_some_iff.1 af).1 rfl) ?_
 have a0 : List.set f.inodes (Int.toNat k) (⟨y4.kind, y4.links - 1, y4.size, y4.blocks, y4.ents⟩ : DInode) = withL f.inodes k (y4.links - 1) := (withL_at af (by omega))
 refine Y.chEq .z (congrArg (fun z_ => (ownA kSl_44 (z_) [.slice (some ab) f.inodes.length al] : Asn)) a0) ?_
 have bv := (withL_of (xs := f.inodes) (a := k) (k := k) (n := y4.links - 1)).symm ▸ ay
 have hWP := withL_pre (n := y4.links - 1) hq
 have hWo := withL_of (xs := f.inodes) (a := k) (k := k) (n := y4.links - 1)
 have cc := hWP.1
 have cd := hWP.2
 refine Y.cl rfl rfl Tryz.func142 rfl rfl (args2 (.t .g1) (.t .z)) .n (fun _ _ hs tr => c_142 (tr.own .z) _ (by first | assumption | exact links_60 (by assumption) _ | (simp only [takeF] at *; assumption))) ?_
 rintro _ _ ⟨rfl, rfl⟩
 refine Y.cat .n ?_
 refine Y.ql rfl (q_gtr rfl (.t .z) .c) (Y.nt ?_)
 refine Y.condP (.t .z) (fun bw => ?_) (fun bw => ?_)
 refine Y.seq (Y.region (Y.mv rfl (.s16 (.s16 .g4)) (Y.nc rfl .z (Y.fa rfl .z fa_27_0 (Y.ld rfl ag_24 .z .g1 (Y.mv rfl (.s16 (.s16 .g9)) ?_))))))
 refine Y.open (.c .z .n) own_raw ?_
 rintro ap ae
 obtain ⟨aa, ac⟩ := get_ex (xs := withL f.inodes k (y4.links - 1)) (j := Int.toNat k) (by first | omega | (simp only [takeF, withE_len, withL_len]; omega))
 obtain ⟨ce, aq⟩ := get_ex (xs := ap) (j := Int.toNat k) (by rw [ae]; exact (List.getElem?_eq_some_iff.1 ac).1)
 refine Y.turn .g1 (seq_split ac aq) ?_
 refine Y.open (.c .z .n) kT_44_op ?_
 rintro ⟨cf, cg⟩ rfl
 refine Y.know (WS.oform .z) ?_
 rintro ⟨ar, au, rfl, ba, bb, bc⟩
 refine Y.know (WS.oform .g1) ?_
 rintro ⟨av, aw, rfl, bd, be, bf⟩
 have bx := kind_at (i := k) ac (by omega)
 have bz := ents_at (a := k) ac (by omega)
 have b0 := links_at (a := k) ac (by omega)
 refine Y.ql rfl (q_indexAddr (j := Int.toNat k) rfl u_24 sz_44 (.t .g1) (.t .z) (by omega) (by first | omega | (simp only [takeF, withE_len, withL_len]; omega))) ?_
 refine Y.fa rfl .z fa_44_1 ?_
 refine Y.es (goes_list rfl) rfl (es_raw (j := Int.toNat k) (off := 1) (cs := [.int .i64 1]) rfl sz_2 (.t .z) (add_add _ _ _) .c rfl (ones rfl) .g4 aq (Nat.le_of_ble_eq_true rfl)) ?_
 refine Y.ceq (x' := List.set ap (Int.toNat k) [.int .i64 aa.kind, .int .i64 1, .int .i64 aa.size, .slice ar aa.blocks.length au, .slice av aa.ents.length aw]) .z rfl ?_
 refine Y.nt (Y.ret (Y.thenR ?_))
 refine Y.turns (c := ownA kT_44 (⟨aa.kind, 1, aa.size, aa.blocks, aa.ents⟩ : DInode) [.int .i64 aa.kind, .int .i64 1, .int .i64 aa.size, .slice ar aa.blocks.length au, .slice av aa.ents.length aw]) (.c .g1 (.c .g1 .n)) (fun w S h => kT_44_omk (⟨aa.kind, 1, aa.size, aa.blocks, aa.ents⟩ : DInode) h) ?_
 refine Y.turns (c := ownA kSl_44 (List.set (withL f.inodes k (y4.links - 1)) (Int.toNat k) (⟨aa.kind, 1, aa.size, aa.blocks, aa.ents⟩ : DInode)) [.slice (some ab) f.inodes.length al]) (.c .g1 (.c .z (.c .z (.c .z .n)))) (own_unfocus (K := kT_44) ae (List.getElem?_eq_some_iff.1 ac).1 rfl) ?_
 have a1 : List.set (withL f.inodes k (y4.links - 1)) (Int.toNat k) (⟨aa.kind, 1, aa.size, aa.blocks, aa.ents⟩ : DInode) = withL (withL f.inodes k (y4.links - 1)) k 1 := (withL_at ac (by omega))
 refine Y.chEq .z (congrArg (fun z_ => (ownA kSl_44 (z_) [.slice (some ab) f.inodes.length al] : Asn)) a1) ?_
 have a2 : withL (withL f.inodes k (y4.links - 1)) k 1 = f.inodes := (by rw [withL_withL, show (1 : Int) = linksAt f.inodes k by omega]; exact withL_same)
 refine Y.chEq .z (congrArg (fun z_ => (ownA kSl_44 (z_) [.slice (some ab) f.inodes.length al] : Asn)) a2) ?_
 refine Y.doneS (res0 rfl) (.c .g1 (.c .z (.c .z .n))) ?_
 exact ⟨_, _, rfl, by first | (rw [lessF_k (by omega)]; done) | (rw [lessF_l (by omega) (by omega), ax]; done) | (rw [lessF_s (by omega) (by omega) (by omega)]; done) | (rw [lessF_d (by omega) (by omega) (by omega), ← dropF_withL (f := f) (k := k) (n := y4.links - 1)]; done) | (rw [lessF_d (by omega) (by omega) (by omega)]; done)⟩
 refine Y.skip (Y.then_ (Y.region (Y.mv rfl (.s16 (.s16 .g4)) (Y.mv rfl (.s16 (.s16 .g6)) ?_))))
 refine Y.cl rfl rfl Tryz.func207 rfl rfl (args2 (.t .g1) (.t .z)) (.c .g1 (.c .z (.c .z .n))) (fun _ _ hs tr => c_207 (f := (⟨withL f.inodes k (y4.links - 1), f.data⟩ : DFs)) _ hs (by first | assumption | (constructor <;> omega)) (by assumption) (by assumption)) ?_
 rintro _ _ ⟨ch, ci, rfl, rfl⟩
 refine Y.cat (.c (.c (.c .n))) ?_
 refine Y.ceq (x' := (dropF (⟨withL f.inodes k (y4.links - 1), f.data⟩ : DFs) k).inodes) .g1 rfl ?_
 refine Y.know (WS.oform .z) ?_
 rintro ⟨b1, b2, rfl, bg, bh, bi⟩
 refine Y.ceq (x' := (dropF (⟨withL f.inodes k (y4.links - 1), f.data⟩ : DFs) k).data) .g2 rfl ?_
 refine Y.know (WS.oform .z) ?_
 rintro ⟨b3, b4, rfl, bj, bk, bm⟩
 refine Y.nil ?_
 refine Y.doneSN (res0 rfl) (.c .g2 (.c .g1 (.c .z .n))) ?_
 exact ⟨_, _, rfl, by first | (rw [lessF_k (by omega)]; done) | (rw [lessF_l (by omega) (by omega), ax]; done) | (rw [lessF_s (by omega) (by omega) (by omega)]; done) | (rw [lessF_d (by omega) (by omega) (by omega), ← dropF_withL (f := f) (k := k) (n := y4.links - 1)]; done) | (rw [lessF_d (by omega) (by omega) (by omega)]; done)⟩

end Go.Proofs.YtmejbfmhaoilmaaGreat

/- What is proved: contracts of functions, one a function. No condition. -/
import Derived.Test.YtbcdcakcmdcafaaGreatW34
import Derived.Test.YtbcdcakcmdcafaaGreatW32
namespace Go.Proofs.YtbcdcakcmdcafaaGreat
open Go Go.RowKit
set_option linter.unusedVariables false
set_option linter.unusedSimpArgs false
set_option maxHeartbeats 1000000 in
set_option maxRecDepth 20000 in
theorem c_69 {w0 : World} {S0 : Bs} {f : DFs} {g0 e0 s0 : Nat} {post0 : List Value} {v0_0 : Value} {v0_1 : Value} (k : Int) (hs : Star [rowA g0 e0 s0 1 (v0_0 :: v0_1 :: post0), ownA kSl_66 f.inodes [v0_0], ownA kSl_39 f.data [v0_1]] w0 S0) (hq : LessPre f k) :
    Calls Tryz.prog 69 #[.pointer (some ⟨g0, 0, none⟩), .int .i64 k] w0 (TriPost w0 S0 (PA_26 g0 e0 s0 post0 (lessF f k))) := by
 obtain ⟨hp1, hp2⟩ := hq.p
 have hd := hq.d
 have hb := hq.b
 have hl60 := hq.l
 have hkl := hq.k
 refine FJ.enter (N := 50) Tryz.func69 rfl rfl (by simp) [(0, .pointer (some ⟨g0, 0, none⟩)), (1, .int .i64 k)] (by simp) hs ?_
 refine FJ.know (WS.oform (.s .z)) ?_
 rintro ⟨Ao1, co1, rfl, hlo1, hmo1, hbo1⟩
 refine FJ.know (WS.oform (.s (.s .z))) ?_
 rintro ⟨Ao2, co2, rfl, hlo2, hmo2, hbo2⟩
 refine FJ.seq (FJ.seq (FJ.region (FJ.ql rfl (q_move rfl (.t .z)) (FJ.ql rfl (q_nilCheck rfl (.t .z)) ?_))))
 refine FJ.ql rfl (q_fieldAddr rfl (.t .z) (fun _ => fa_26_0 _ _)) (FJ.ql rfl (q_load rfl ag_24 (.t .z) (WS.row .z rfl)) (FJ.ql rfl (q_move rfl (.t (.s4 (.s .z)))) ?_))
 refine FJ.open (.c (.s .z) .n) own_raw ?_
 rintro fc3 hlfc3
 obtain ⟨y4, hy4⟩ := get_ex (xs := f.inodes) (j := Int.toNat k) (by first | omega | (simp only [takeF, withE_len, withL_len]; omega))
 obtain ⟨c5, hc5⟩ := get_ex (xs := fc3) (j := Int.toNat k) (by rw [hlfc3]; exact (List.getElem?_eq_some_iff.1 hy4).1)
 refine FJ.turn (.s .z) (seq_split hy4 hc5) ?_
 refine FJ.open (.c .z .n) kT_66_op ?_
 rintro ⟨v6, v7⟩ rfl
 refine FJ.know (WS.oform .z) ?_
 rintro ⟨Ao10, co10, rfl, hlo10, hmo10, hbo10⟩
 refine FJ.know (WS.oform (.s .z)) ?_
 rintro ⟨Ao11, co11, rfl, hlo11, hmo11, hbo11⟩
 have ky4 := kind_at (i := k) hy4 (by omega)
 have ny4 := ents_at (a := k) hy4 (by omega)
 have ly4 := links_at (a := k) hy4 (by omega)
 refine FJ.know (WS.oad (.s4 .z) (by omega)) ?_
 rintro ⟨ad12, rfl⟩
 refine FJ.ql rfl (q_indexAddr (j := Int.toNat k) rfl u_24 sz_66 (.t (.s .z)) (.t .z) (by omega) (by first | omega | (simp only [takeF, withE_len, withL_len]; omega))) ?_
 refine FJ.ql rfl (q_fieldAddr rfl (.t .z) (fun _ => fa_66_0 _ _)) (FJ.ql rfl (q_load rfl ag_2 (.t .z) (WS.raw (.s4 .z) hc5 rfl)) (FJ.ql rfl (q_neq rfl (.t .z) .c) (FJ.nil (FJ.then_ ?_))))
 refine FJ.condN (.t .z) (fun b14 => ?_) (fun b14 => ?_)
 refine FJ.ret (FJ.thenR ?_)
 refine FJ.turns (c := ownA kT_66 y4 [.int .i64 y4.kind, .int .i64 y4.links, .int .i64 y4.size, .slice Ao10 y4.blocks.length co10, .slice Ao11 y4.ents.length co11]) (.c .z (.c .z .n)) (fun w S h => kT_66_omk y4 h) ?_
 refine FJ.turns (c := ownA kSl_66 f.inodes [.slice (some ad12) f.inodes.length co1]) (.c (.s (.s (.s .z))) (.c .z (.c .z (.c .z .n)))) (own_unfocus0 (K := kT_66) hlfc3 hy4 hc5) ?_
 refine FJ.doneS (res0 rfl) (.c (.s .z) (.c .z (.c .z .n))) ?_
 exact ⟨_, _, rfl, by first | (rw [lessF_k (by omega)]; done) | (rw [lessF_l (by omega) (by omega), ly4]; done) | (rw [lessF_s (by omega) (by omega) (by omega)]; done) | (rw [lessF_d (by omega) (by omega) (by omega), ← dropF_withL (f := f) (k := k) (n := y4.links - 1)]; done) | (rw [lessF_d (by omega) (by omega) (by omega)]; done)⟩
 refine FJ.skip (FJ.then_ (FJ.seq (FJ.region (FJ.ql rfl (q_move rfl (.t (.s4 (.s4 (.s .z))))) ?_))))
 refine FJ.ql rfl (q_nilCheck rfl (.t .z)) (FJ.ql rfl (q_fieldAddr rfl (.t .z) (fun _ => fa_26_0 _ _)) (FJ.ql rfl (q_load rfl ag_24 (.t .z) (WS.row (.s4 (.s .z)) rfl)) (FJ.ql rfl (q_move rfl (.t (.s4 (.s4 (.s4 (.s (.s .z))))))) ?_)))
 refine FJ.ql rfl (q_indexAddr (j := Int.toNat k) rfl u_24 sz_66 (.t (.s .z)) (.t .z) (by omega) (by first | omega | (simp only [takeF, withE_len, withL_len]; omega))) ?_
 refine FJ.ql rfl (q_fieldAddr rfl (.t .z) (fun _ => fa_66_1 _ _)) (FJ.ql rfl (q_load rfl ag_2 (.t .z) (WS.raw (.s4 .z) hc5 rfl)) ?_)
 refine FJ.ql rfl (q_sub (c := y4.links - 1) rfl (.t .z) .c (wr (by omega) (by omega) (by omega))) ?_
 refine FJ.ql rfl (q_indexAddr (j := Int.toNat k) rfl u_24 sz_66 (.t (.s4 (.s .z))) (.t (.s4 .z)) (by omega) (by first | omega | (simp only [takeF, withE_len, withL_len]; omega))) ?_
 refine FJ.ql rfl (q_fieldAddr rfl (.t .z) (fun _ => fa_66_1 _ _)) ?_
 refine FJ.es (goes_list rfl) rfl (es_raw (j := Int.toNat k) (off := 1) (cs := [.int .i64 (y4.links - 1)]) rfl sz_2 (.t .z) (add_add _ _ _) (.t (.s (.s .z))) rfl (ones rfl) (.s4 .z) hc5 (Nat.le_of_ble_eq_true rfl)) ?_
 refine FJ.ceq (x' := List.set fc3 (Int.toNat k) [.int .i64 y4.kind, .int .i64 (y4.links - 1), .int .i64 y4.size, .slice Ao10 y4.blocks.length co10, .slice Ao11 y4.ents.length co11]) .z rfl ?_
 refine FJ.nil (FJ.then_ (FJ.seq (FJ.seq (FJ.region ?_))))
 refine FJ.ql rfl (q_move rfl (.t (.s16 (.s4 .z)))) (FJ.ql rfl (q_nilCheck rfl (.t .z)) (FJ.ql rfl (q_fieldAddr rfl (.t .z) (fun _ => fa_26_0 _ _)) (FJ.ql rfl (q_load rfl ag_24 (.t .z) (WS.row (.s4 (.s .z)) rfl)) (FJ.ql rfl (q_move rfl (.t (.s16 (.s4 (.s4 (.s .z)))))) ?_))))
 refine FJ.ql rfl (q_indexAddr (j := Int.toNat k) rfl u_24 sz_66 (.t (.s .z)) (.t .z) (by omega) (by first | omega | (simp only [takeF, withE_len, withL_len]; omega))) ?_
 refine FJ.ql rfl (q_fieldAddr rfl (.t .z) (fun _ => fa_66_1 _ _)) (FJ.ql rfl (q_load rfl ag_2 (.t .z) (WS.raw .z (set_get hc5) rfl)) (FJ.ql rfl (q_gtr rfl (.t .z) .c) (FJ.nil (FJ.then_ ?_))))
 refine FJ.condP (.t .z) (fun b19 => ?_) (fun b19 => ?_)
 refine FJ.ret (FJ.thenR ?_)
 refine FJ.turns (c := ownA kT_66 (⟨y4.kind, y4.links - 1, y4.size, y4.blocks, y4.ents⟩ : DInode) [.int .i64 y4.kind, .int .i64 (y4.links - 1), .int .i64 y4.size, .slice Ao10 y4.blocks.length co10, .slice Ao11 y4.ents.length co11]) (.c (.s .z) (.c (.s .z) .n)) (fun w S h => kT_66_omk (⟨y4.kind, y4.links - 1, y4.size, y4.blocks, y4.ents⟩ : DInode) h) ?_
 refine FJ.turns (c := ownA kSl_66 (List.set f.inodes (Int.toNat k) (⟨y4.kind, y4.links - 1, y4.size, y4.blocks, y4.ents⟩ : DInode)) [.slice (some ad12) f.inodes.length co1]) (.c (.s .z) (.c .z (.c .z (.c .z .n)))) (own_unfocus (K := kT_66) hlfc3 (List.getElem?_eq_some_iff.1 hy4).1 rfl) ?_
 have he21 : List.set f.inodes (Int.toNat k) (⟨y4.kind, y4.links - 1, y4.size, y4.blocks, y4.ents⟩ : DInode) = withL f.inodes k (y4.links - 1) := (withL_at hy4 (by omega))
 refine FJ.chEq .z (congrArg (fun z_ => (ownA kSl_66 (z_) [.slice (some ad12) f.inodes.length co1] : Asn)) he21) ?_
 refine FJ.doneS (res0 rfl) (.c (.s .z) (.c .z (.c .z .n))) ?_
 exact ⟨_, _, rfl, by first | (rw [lessF_k (by omega)]; done) | (rw [lessF_l (by omega) (by omega), ly4]; done) | (rw [lessF_s (by omega) (by omega) (by omega)]; done) | (rw [lessF_d (by omega) (by omega) (by omega), ← dropF_withL (f := f) (k := k) (n := y4.links - 1)]; done) | (rw [lessF_d (by omega) (by omega) (by omega)]; done)⟩
 refine FJ.skip (FJ.then_ (FJ.seq (FJ.seq (FJ.region ?_))))
 refine FJ.ql rfl (q_move rfl (.t (.s16 (.s4 (.s4 (.s4 (.s .z))))))) (FJ.ql rfl (q_nilCheck rfl (.t .z)) (FJ.ql rfl (q_fieldAddr rfl (.t .z) (fun _ => fa_26_0 _ _)) (FJ.ql rfl (q_load rfl ag_24 (.t .z) (WS.row (.s4 (.s .z)) rfl)) (FJ.ql rfl (q_move rfl (.t (.s16 (.s16 (.s (.s .z)))))) ?_))))
 refine FJ.turns (c := ownA kT_66 (⟨y4.kind, y4.links - 1, y4.size, y4.blocks, y4.ents⟩ : DInode) [.int .i64 y4.kind, .int .i64 (y4.links - 1), .int .i64 y4.size, .slice Ao10 y4.blocks.length co10, .slice Ao11 y4.ents.length co11]) (.c (.s .z) (.c (.s .z) .n)) (fun w S h => kT_66_omk (⟨y4.kind, y4.links - 1, y4.size, y4.blocks, y4.ents⟩ : DInode) h) ?_
 refine FJ.turns (c := ownA kSl_66 (List.set f.inodes (Int.toNat k) (⟨y4.kind, y4.links - 1, y4.size, y4.blocks, y4.ents⟩ : DInode)) [.slice (some ad12) f.inodes.length co1]) (.c (.s .z) (.c .z (.c .z (.c .z .n)))) (own_unfocus (K := kT_66) hlfc3 (List.getElem?_eq_some_iff.1 hy4).1 rfl) ?_
 have he23 : List.set f.inodes (Int.toNat k) (⟨y4.kind, y4.links - 1, y4.size, y4.blocks, y4.ents⟩ : DInode) = withL f.inodes k (y4.links - 1) := (withL_at hy4 (by omega))
 refine FJ.chEq .z (congrArg (fun z_ => (ownA kSl_66 (z_) [.slice (some ad12) f.inodes.length co1] : Asn)) he23) ?_
 have hL60 := (withL_of (xs := f.inodes) (a := k) (k := k) (n := y4.links - 1)).symm ▸ hl60
 have hWP := withL_pre (n := y4.links - 1) hq
 have hWo := withL_of (xs := f.inodes) (a := k) (k := k) (n := y4.links - 1)
 have hW1 := hWP.1
 have hW2 := hWP.2
 refine FJ.call (goes_list rfl) rfl (by decide) rfl (c_call rfl Tryz.func108 rfl rfl (args2 (.t (.s .z)) (.t .z))) .n (fun w1 S1 hs tr => c_108 (tr.own .z) _ (by first | assumption | exact links_60 (by assumption) _ | (simp only [takeF] at *; assumption))) ?_
 rintro _ _ ⟨rfl, rfl⟩
 refine FJ.cat .n ?_
 refine FJ.ql rfl (q_gtr rfl (.t .z) .c) (FJ.nil (FJ.then_ ?_))
 refine FJ.condP (.t .z) (fun b24 => ?_) (fun b24 => ?_)
 refine FJ.seq (FJ.region (FJ.ql rfl (q_move rfl (.t (.s16 (.s16 (.s4 .z))))) (FJ.ql rfl (q_nilCheck rfl (.t .z)) (FJ.ql rfl (q_fieldAddr rfl (.t .z) (fun _ => fa_26_0 _ _)) ?_))))
 refine FJ.ql rfl (q_load rfl ag_24 (.t .z) (WS.row (.s .z) rfl)) (FJ.ql rfl (q_move rfl (.t (.s16 (.s16 (.s4 (.s4 (.s .z))))))) ?_)
 refine FJ.open (.c .z .n) own_raw ?_
 rintro fc25 hlfc25
 obtain ⟨y26, hy26⟩ := get_ex (xs := withL f.inodes k (y4.links - 1)) (j := Int.toNat k) (by first | omega | (simp only [takeF, withE_len, withL_len]; omega))
 obtain ⟨c27, hc27⟩ := get_ex (xs := fc25) (j := Int.toNat k) (by rw [hlfc25]; exact (List.getElem?_eq_some_iff.1 hy26).1)
 refine FJ.turn (.s .z) (seq_split hy26 hc27) ?_
 refine FJ.open (.c .z .n) kT_66_op ?_
 rintro ⟨v28, v29⟩ rfl
 refine FJ.know (WS.oform .z) ?_
 rintro ⟨Ao32, co32, rfl, hlo32, hmo32, hbo32⟩
 refine FJ.know (WS.oform (.s .z)) ?_
 rintro ⟨Ao33, co33, rfl, hlo33, hmo33, hbo33⟩
 have ky26 := kind_at (i := k) hy26 (by omega)
 have ny26 := ents_at (a := k) hy26 (by omega)
 have ly26 := links_at (a := k) hy26 (by omega)
 refine FJ.ql rfl (q_indexAddr (j := Int.toNat k) rfl u_24 sz_66 (.t (.s .z)) (.t .z) (by omega) (by first | omega | (simp only [takeF, withE_len, withL_len]; omega))) ?_
 refine FJ.ql rfl (q_fieldAddr rfl (.t .z) (fun _ => fa_66_1 _ _)) ?_
 refine FJ.es (goes_list rfl) rfl (es_raw (j := Int.toNat k) (off := 1) (cs := [.int .i64 1]) rfl sz_2 (.t .z) (add_add _ _ _) .c rfl (ones rfl) (.s4 .z) hc27 (Nat.le_of_ble_eq_true rfl)) ?_
 refine FJ.ceq (x' := List.set fc25 (Int.toNat k) [.int .i64 y26.kind, .int .i64 1, .int .i64 y26.size, .slice Ao32 y26.blocks.length co32, .slice Ao33 y26.ents.length co33]) .z rfl ?_
 refine FJ.nil (FJ.then_ (FJ.ret (FJ.thenR ?_)))
 refine FJ.turns (c := ownA kT_66 (⟨y26.kind, 1, y26.size, y26.blocks, y26.ents⟩ : DInode) [.int .i64 y26.kind, .int .i64 1, .int .i64 y26.size, .slice Ao32 y26.blocks.length co32, .slice Ao33 y26.ents.length co33]) (.c (.s .z) (.c (.s .z) .n)) (fun w S h => kT_66_omk (⟨y26.kind, 1, y26.size, y26.blocks, y26.ents⟩ : DInode) h) ?_
 refine FJ.turns (c := ownA kSl_66 (List.set (withL f.inodes k (y4.links - 1)) (Int.toNat k) (⟨y26.kind, 1, y26.size, y26.blocks, y26.ents⟩ : DInode)) [.slice (some ad12) f.inodes.length co1]) (.c (.s .z) (.c .z (.c .z (.c .z .n)))) (own_unfocus (K := kT_66) hlfc25 (List.getElem?_eq_some_iff.1 hy26).1 rfl) ?_
 have he36 : List.set (withL f.inodes k (y4.links - 1)) (Int.toNat k) (⟨y26.kind, 1, y26.size, y26.blocks, y26.ents⟩ : DInode) = withL (withL f.inodes k (y4.links - 1)) k 1 := (withL_at hy26 (by omega))
 refine FJ.chEq .z (congrArg (fun z_ => (ownA kSl_66 (z_) [.slice (some ad12) f.inodes.length co1] : Asn)) he36) ?_
 have he37 : withL (withL f.inodes k (y4.links - 1)) k 1 = f.inodes := (by rw [withL_withL, show (1 : Int) = linksAt f.inodes k by omega]; exact withL_same)
 refine FJ.chEq .z (congrArg (fun z_ => (ownA kSl_66 (z_) [.slice (some ad12) f.inodes.length co1] : Asn)) he37) ?_
 refine FJ.doneS (res0 rfl) (.c (.s .z) (.c .z (.c .z .n))) ?_
 exact ⟨_, _, rfl, by first | (rw [lessF_k (by omega)]; done) | (rw [lessF_l (by omega) (by omega), ly4]; done) | (rw [lessF_s (by omega) (by omega) (by omega)]; done) | (rw [lessF_d (by omega) (by omega) (by omega), ← dropF_withL (f := f) (k := k) (n := y4.links - 1)]; done) | (rw [lessF_d (by omega) (by omega) (by omega)]; done)⟩
 refine FJ.skip (FJ.then_ (FJ.region (FJ.ql rfl (q_move rfl (.t (.s16 (.s16 (.s4 .z))))) (FJ.ql rfl (q_move rfl (.t (.s16 (.s16 (.s4 (.s (.s .z))))))) ?_))))
 refine FJ.call (goes_list rfl) rfl (by decide) rfl (c_call rfl Tryz.func75 rfl rfl (args2 (.t (.s .z)) (.t .z))) (.c (.s .z) (.c .z (.c .z .n))) (fun w1 S1 hs tr => c_75 (f := (⟨withL f.inodes k (y4.links - 1), f.data⟩ : DFs)) _ hs (by first | assumption | (constructor <;> omega)) (by assumption) (by assumption)) ?_
 rintro _ _ ⟨v38, v40, rfl, rfl⟩
 refine FJ.cat (.c (.c (.c .n))) ?_
 refine FJ.ceq (x' := (dropF (⟨withL f.inodes k (y4.links - 1), f.data⟩ : DFs) k).inodes) (.s .z) rfl ?_
 refine FJ.know (WS.oform .z) ?_
 rintro ⟨Ao42, co42, rfl, hlo42, hmo42, hbo42⟩
 refine FJ.ceq (x' := (dropF (⟨withL f.inodes k (y4.links - 1), f.data⟩ : DFs) k).data) (.s (.s .z)) rfl ?_
 refine FJ.know (WS.oform .z) ?_
 rintro ⟨Ao43, co43, rfl, hlo43, hmo43, hbo43⟩
 refine FJ.nil ?_
 refine FJ.doneSN (res0 rfl) (.c (.s (.s .z)) (.c (.s .z) (.c .z .n))) ?_
 exact ⟨_, _, rfl, by first | (rw [lessF_k (by omega)]; done) | (rw [lessF_l (by omega) (by omega), ly4]; done) | (rw [lessF_s (by omega) (by omega) (by omega)]; done) | (rw [lessF_d (by omega) (by omega) (by omega), ← dropF_withL (f := f) (k := k) (n := y4.links - 1)]; done) | (rw [lessF_d (by omega) (by omega) (by omega)]; done)⟩

set_option maxHeartbeats 1000000 in
set_option maxRecDepth 20000 in
theorem c_73 {w0 : World} {S0 : Bs} {f : DFs} {g0 e0 s0 : Nat} {post0 : List Value} {v0_0 : Value} {v0_1 : Value} (a : Int) (s : ByteArray) (hz2 : s.size ≤ 140737488351232) (hs : Star [rowA g0 e0 s0 1 (v0_0 :: v0_1 :: post0), ownA kSl_66 f.inodes [v0_0], ownA kSl_39 f.data [v0_1]] w0 S0) (ht : treeFault f = 0) (hp : placeIn f.inodes.length a) (hk : ¬ lookI (entsAt f.inodes a) s < 0) :
    Calls Tryz.prog 73 #[.pointer (some ⟨g0, 0, none⟩), .int .i64 a, .string s] w0 (TriPost w0 S0 (PA_26 g0 e0 s0 post0 (lessF (takeF f a (List.filter (notP (nameP s)) (entsAt f.inodes a))) (lookI (entsAt f.inodes a) s)))) := by
 obtain ⟨hp1, hp2⟩ := hp
 have hkp := look_place ht hk
 have hq := less_pre (a := a) (es := (List.filter (notP (nameP s)) (entsAt f.inodes a))) ht (List.filter_sublist ..) hkp
 obtain ⟨hq1, hq2⟩ := hq.p
 have hd := hq.d
 have hb := hq.b
 have hl60 := hq.l
 have hkl := hq.k
 refine FJ.enter (N := 52) Tryz.func73 rfl rfl (by simp) [(0, .pointer (some ⟨g0, 0, none⟩)), (1, .int .i64 a), (2, .string s)] (by simp) hs ?_
 refine FJ.know (WS.oform (.s .z)) ?_
 rintro ⟨Ao1, co1, rfl, hlo1, hmo1, hbo1⟩
 refine FJ.know (WS.oform (.s (.s .z))) ?_
 rintro ⟨Ao2, co2, rfl, hlo2, hmo2, hbo2⟩
 refine FJ.seq (FJ.region (FJ.ql rfl (q_move rfl (.t .z)) (FJ.ql rfl (q_move rfl (.t (.s (.s .z)))) (FJ.ql rfl (q_move rfl (.t (.s4 .z))) ?_))))
 refine FJ.call (goes_list rfl) rfl (by decide) rfl (c_call rfl Tryz.func72 rfl rfl (args3 (.t (.s (.s .z))) (.t (.s .z)) (.t .z))) .n (fun w1 S1 hs tr => c_72 (tr.ptrpre .z (kT_26_mk f (tr.own (.s .z)) (tr.own (.s (.s .z)))) (pre_at (cs := [.slice Ao1 f.inodes.length co1, .slice Ao2 f.data.length co2]) (k := 2) rfl rfl)) _ _ (by first | assumption | omega) (by first | assumption | (constructor <;> omega))) ?_
 rintro _ _ ⟨rfl, rfl⟩
 refine FJ.cat .n ?_
 refine FJ.ql rfl (q_assign rfl (.t .z)) (FJ.nil (FJ.then_ (FJ.seq (FJ.region ?_))))
 refine FJ.ql rfl (q_move rfl (.t (.s4 (.s .z)))) (FJ.ql rfl (q_move rfl (.t (.s4 (.s (.s (.s .z)))))) (FJ.ql rfl (q_move rfl (.t (.s4 (.s4 (.s .z))))) ?_))
 refine FJ.call (goes_list rfl) rfl (by decide) rfl (c_call rfl Tryz.func113 rfl rfl (args3 (.t (.s (.s .z))) (.t (.s .z)) (.t .z))) (.c .z (.c .z (.c .z .n))) (fun w1 S1 hs tr => c_113 (f := f) _ _ (by first | assumption | omega) hs (by first | assumption | (constructor <;> omega))) ?_
 rintro _ _ ⟨v3, v5, rfl, rfl⟩
 refine FJ.cat (.c (.c (.c .n))) ?_
 refine FJ.know (WS.oform (.s .z)) ?_
 rintro ⟨Ao7, co7, rfl, hlo7, hmo7, hbo7⟩
 refine FJ.know (WS.oform (.s (.s .z))) ?_
 rintro ⟨Ao8, co8, rfl, hlo8, hmo8, hbo8⟩
 refine FJ.nil (FJ.then_ (FJ.seq (FJ.region (FJ.ql rfl (q_move rfl (.t (.s4 (.s4 (.s .z))))) ?_))))
 refine FJ.ql rfl (q_nilCheck rfl (.t .z)) (FJ.ql rfl (q_fieldAddr rfl (.t .z) (fun _ => fa_26_0 _ _)) (FJ.ql rfl (q_load rfl ag_24 (.t .z) (WS.row .z rfl)) (FJ.ql rfl (q_move rfl (.t (.s4 (.s4 .z)))) ?_)))
 refine FJ.open (.c (.s .z) .n) own_raw ?_
 rintro fc9 hlfc9
 obtain ⟨y10, hy10⟩ := get_ex (xs := (takeF f a (List.filter (notP (nameP s)) (entsAt (f).inodes a))).inodes) (j := Int.toNat (lookI (entsAt (f).inodes a) s)) (by first | omega | (simp only [takeF, withE_len, withL_len]; omega))
 obtain ⟨c11, hc11⟩ := get_ex (xs := fc9) (j := Int.toNat (lookI (entsAt (f).inodes a) s)) (by rw [hlfc9]; exact (List.getElem?_eq_some_iff.1 hy10).1)
 refine FJ.turn (.s .z) (seq_split hy10 hc11) ?_
 refine FJ.open (.c .z .n) kT_66_op ?_
 rintro ⟨v12, v13⟩ rfl
 refine FJ.know (WS.oform .z) ?_
 rintro ⟨Ao16, co16, rfl, hlo16, hmo16, hbo16⟩
 refine FJ.know (WS.oform (.s .z)) ?_
 rintro ⟨Ao17, co17, rfl, hlo17, hmo17, hbo17⟩
 have ky10 := kind_at (i := (lookI (entsAt (f).inodes a) s)) hy10 (by omega)
 have ny10 := ents_at (a := (lookI (entsAt (f).inodes a) s)) hy10 (by omega)
 have ly10 := links_at (a := (lookI (entsAt (f).inodes a) s)) hy10 (by omega)
 refine FJ.know (WS.oad (.s4 .z) (by omega)) ?_
 rintro ⟨ad18, rfl⟩
 refine FJ.ql rfl (q_indexAddr (j := Int.toNat (lookI (entsAt (f).inodes a) s)) rfl u_24 sz_66 (.t (.s .z)) (.t .z) (by omega) (by first | omega | (simp only [takeF, withE_len, withL_len]; omega))) ?_
 refine FJ.ql rfl (q_assign rfl (.t .z)) (FJ.nil (FJ.then_ (FJ.block (FJ.seq ?_))))
 refine FJ.region (FJ.ql rfl (q_move rfl (.t .z)) (FJ.ql rfl (q_nilCheck rfl (.t .z)) (FJ.ql rfl (q_fieldAddr rfl (.t .z) (fun _ => fa_66_0 _ _)) (FJ.ql rfl (q_load rfl ag_2 (.t .z) (WS.raw (.s4 .z) hc11 rfl)) ?_))))
 refine FJ.ql rfl (q_neq rfl (.t .z) .c) (FJ.ql rfl (q_assign rfl (.t .z)) (FJ.nil (FJ.then_ ?_)))
 refine FJ.condN (.t .z) (fun b20 => ?_) (fun b20 => ?_)
 refine FJ.skip (FJ.inBN ?_)
 refine FJ.turns (c := ownA kT_66 y10 [.int .i64 y10.kind, .int .i64 y10.links, .int .i64 y10.size, .slice Ao16 y10.blocks.length co16, .slice Ao17 y10.ents.length co17]) (.c .z (.c .z .n)) (fun w S h => kT_66_omk y10 h) ?_
 refine FJ.turns (c := ownA kSl_66 ((takeF f a (List.filter (notP (nameP s)) (entsAt (f).inodes a))).inodes) [.slice (some ad18) ((takeF f a (List.filter (notP (nameP s)) (entsAt (f).inodes a))).inodes).length co7]) (.c (.s (.s (.s .z))) (.c .z (.c .z (.c .z .n)))) (own_unfocus0 (K := kT_66) hlfc9 hy10 hc11) ?_
 refine FJ.doneSN (res0 rfl) (.c (.s .z) (.c .z (.c .z .n))) ?_
 exact ⟨_, _, rfl, by first | (rw [lessF_k (by omega)]; done) | (rw [lessF_l (by omega) (by omega), ly10]; done) | (rw [lessF_s (by omega) (by omega) (by omega)]; done) | (rw [lessF_d (by omega) (by omega) (by omega)]; done)⟩
 refine FJ.seq (FJ.region (FJ.ql rfl (q_move rfl (.t (.s4 (.s (.s .z))))) (FJ.ql rfl (q_nilCheck rfl (.t .z)) (FJ.ql rfl (q_fieldAddr rfl (.t .z) (fun _ => fa_66_1 _ _)) ?_))))
 refine FJ.ql rfl (q_load rfl ag_2 (.t .z) (WS.raw (.s4 .z) hc11 rfl)) (FJ.ql rfl (q_gtr rfl (.t .z) .c) (FJ.ql rfl (q_assign rfl (.t .z)) (FJ.nil (FJ.then_ ?_))))
 refine FJ.condP (.t .z) (fun b22 => ?_) (fun b22 => ?_)
 refine FJ.region (FJ.ql rfl (q_move rfl (.t (.s4 (.s4 (.s4 .z))))) (FJ.ql rfl (q_nilCheck rfl (.t .z)) (FJ.ql rfl (q_fieldAddr rfl (.t .z) (fun _ => fa_66_1 _ _)) (FJ.ql rfl (q_load rfl ag_2 (.t .z) (WS.raw (.s4 .z) hc11 rfl)) ?_))))
 refine FJ.ql rfl (q_sub (c := y10.links - 1) rfl (.t .z) .c (wr (by omega) (by omega) (by omega))) ?_
 refine FJ.ql rfl (q_nilCheck rfl (.t (.s4 .z))) (FJ.ql rfl (q_fieldAddr rfl (.t .z) (fun _ => fa_66_1 _ _)) ?_)
 refine FJ.es (goes_list rfl) rfl (es_raw (j := Int.toNat (lookI (entsAt (f).inodes a) s)) (off := 1) (cs := [.int .i64 (y10.links - 1)]) rfl sz_2 (.t .z) (add_add _ _ _) (.t (.s (.s .z))) rfl (ones rfl) (.s4 .z) hc11 (Nat.le_of_ble_eq_true rfl)) ?_
 refine FJ.ceq (x' := List.set fc9 (Int.toNat (lookI (entsAt (f).inodes a) s)) [.int .i64 y10.kind, .int .i64 (y10.links - 1), .int .i64 y10.size, .slice Ao16 y10.blocks.length co16, .slice Ao17 y10.ents.length co17]) .z rfl ?_
 refine FJ.nil (FJ.inBN ?_)
 refine FJ.turns (c := ownA kT_66 (⟨y10.kind, y10.links - 1, y10.size, y10.blocks, y10.ents⟩ : DInode) [.int .i64 y10.kind, .int .i64 (y10.links - 1), .int .i64 y10.size, .slice Ao16 y10.blocks.length co16, .slice Ao17 y10.ents.length co17]) (.c (.s .z) (.c (.s .z) .n)) (fun w S h => kT_66_omk (⟨y10.kind, y10.links - 1, y10.size, y10.blocks, y10.ents⟩ : DInode) h) ?_
 refine FJ.turns (c := ownA kSl_66 (List.set ((takeF f a (List.filter (notP (nameP s)) (entsAt (f).inodes a))).inodes) (Int.toNat (lookI (entsAt (f).inodes a) s)) (⟨y10.kind, y10.links - 1, y10.size, y10.blocks, y10.ents⟩ : DInode)) [.slice (some ad18) ((takeF f a (List.filter (notP (nameP s)) (entsAt (f).inodes a))).inodes).length co7]) (.c (.s .z) (.c .z (.c .z (.c .z .n)))) (own_unfocus (K := kT_66) hlfc9 (List.getElem?_eq_some_iff.1 hy10).1 rfl) ?_
 have he24 : List.set ((takeF f a (List.filter (notP (nameP s)) (entsAt (f).inodes a))).inodes) (Int.toNat (lookI (entsAt (f).inodes a) s)) (⟨y10.kind, y10.links - 1, y10.size, y10.blocks, y10.ents⟩ : DInode) = withL ((takeF f a (List.filter (notP (nameP s)) (entsAt (f).inodes a))).inodes) (lookI (entsAt (f).inodes a) s) (y10.links - 1) := (withL_at hy10 (by omega))
 refine FJ.chEq .z (congrArg (fun z_ => (ownA kSl_66 (z_) [.slice (some ad18) ((takeF f a (List.filter (notP (nameP s)) (entsAt (f).inodes a))).inodes).length co7] : Asn)) he24) ?_
 refine FJ.doneSN (res0 rfl) (.c (.s .z) (.c .z (.c .z .n))) ?_
 exact ⟨_, _, rfl, by first | (rw [lessF_k (by omega)]; done) | (rw [lessF_l (by omega) (by omega), ly10]; done) | (rw [lessF_s (by omega) (by omega) (by omega)]; done) | (rw [lessF_d (by omega) (by omega) (by omega)]; done)⟩
 refine FJ.seq (FJ.region (FJ.ql rfl (q_move rfl (.t (.s16 (.s4 (.s4 (.s4 .z)))))) (FJ.ql rfl (q_nilCheck rfl (.t .z)) (FJ.ql rfl (q_fieldAddr rfl (.t .z) (fun _ => fa_26_0 _ _)) ?_))))
 refine FJ.ql rfl (q_load rfl ag_24 (.t .z) (WS.row (.s4 (.s .z)) rfl)) (FJ.ql rfl (q_move rfl (.t (.s16 (.s4 (.s4 (.s (.s (.s .z)))))))) ?_)
 refine FJ.turns (c := ownA kT_66 y10 [.int .i64 y10.kind, .int .i64 y10.links, .int .i64 y10.size, .slice Ao16 y10.blocks.length co16, .slice Ao17 y10.ents.length co17]) (.c .z (.c .z .n)) (fun w S h => kT_66_omk y10 h) ?_
 refine FJ.turns (c := ownA kSl_66 ((takeF f a (List.filter (notP (nameP s)) (entsAt (f).inodes a))).inodes) [.slice (some ad18) ((takeF f a (List.filter (notP (nameP s)) (entsAt (f).inodes a))).inodes).length co7]) (.c (.s (.s (.s .z))) (.c .z (.c .z (.c .z .n)))) (own_unfocus0 (K := kT_66) hlfc9 hy10 hc11) ?_
 refine FJ.call (goes_list rfl) rfl (by decide) rfl (c_call rfl Tryz.func114 rfl rfl (args2 (.t (.s .z)) (.t .z))) .n (fun w1 S1 hs tr => c_114 (tr.own .z) _ (by first | assumption | exact links_60 (by assumption) _ | (simp only [takeF] at *; assumption))) ?_
 rintro _ _ ⟨rfl, rfl⟩
 refine FJ.cat .n ?_
 refine FJ.ql rfl (q_eql rfl (.t .z) .c) (FJ.ql rfl (q_assign rfl (.t .z)) (FJ.nil (FJ.then_ ?_)))
 refine FJ.condP (.t .z) (fun b26 => ?_) (fun b26 => ?_)
 refine FJ.region (FJ.ql rfl (q_move rfl (.t (.s16 (.s16 (.s4 .z))))) (FJ.ql rfl (q_move rfl (.t (.s16 (.s16 .z)))) ?_))
 refine FJ.call (goes_list rfl) rfl (by decide) rfl (c_call rfl Tryz.func76 rfl rfl (args2 (.t (.s .z)) (.t .z))) (.c (.s .z) (.c .z (.c .z .n))) (fun w1 S1 hs tr => c_76 (f := (takeF f a (List.filter (notP (nameP s)) (entsAt (f).inodes a)))) _ hs (by first | assumption | (constructor <;> omega)) (by assumption) (by assumption)) ?_
 rintro _ _ ⟨v27, v29, rfl, rfl⟩
 refine FJ.cat (.c (.c (.c .n))) ?_
 refine FJ.know (WS.oform (.s .z)) ?_
 rintro ⟨Ao31, co31, rfl, hlo31, hmo31, hbo31⟩
 refine FJ.know (WS.oform (.s (.s .z))) ?_
 rintro ⟨Ao32, co32, rfl, hlo32, hmo32, hbo32⟩
 refine FJ.nil (FJ.inBN ?_)
 refine FJ.doneSN (res0 rfl) (.c .z (.c .z (.c .z .n))) ?_
 exact ⟨_, _, rfl, by first | (rw [lessF_k (by omega)]; done) | (rw [lessF_l (by omega) (by omega), ly10]; done) | (rw [lessF_s (by omega) (by omega) (by omega)]; done) | (rw [lessF_d (by omega) (by omega) (by omega)]; done)⟩
 refine FJ.skip (FJ.inBN ?_)
 refine FJ.doneSN (res0 rfl) (.c (.s .z) (.c .z (.c .z .n))) ?_
 exact ⟨_, _, rfl, by first | (rw [lessF_k (by omega)]; done) | (rw [lessF_l (by omega) (by omega), ly10]; done) | (rw [lessF_s (by omega) (by omega) (by omega)]; done) | (rw [lessF_d (by omega) (by omega) (by omega)]; done)⟩

set_option maxHeartbeats 1000000 in
set_option maxRecDepth 20000 in
theorem c_31 {w0 : World} {S0 : Bs} {f : DFs} {cs0 : List Value} (h0 : kT_26.ro w0 (FF w0 S0) f cs0) (a : Int) (s : ByteArray) (hz2 : s.size ≤ 140737488351232)  :
    Calls Tryz.prog 31 #[.agg cs0.toArray, .int .i64 a, .string s] w0 (TriPost w0 S0 (RA_28 (dropNameR f a s))) := by
 obtain ⟨u0_0, u0_1, rfl, h0_0, h0_1⟩ := kT_26_ro h0
 obtain ⟨A0_0, c0_0, rfl, hl0_0, hm0_0, hb0_0, he0_0⟩ := ro_form h0_0
 obtain ⟨A0_1, c0_1, rfl, hl0_1, hm0_1, hb0_1, he0_1⟩ := ro_form h0_1
 refine FJ.enter (N := 29) Tryz.func31 rfl rfl (by simp) [(0, .agg #[.slice A0_0 f.inodes.length c0_0, .slice A0_1 f.data.length c0_1]), (1, .int .i64 a), (2, .string s)] (by simp) (l0 := []) trivial ?_
 refine FJ.seq (FJ.region ?_)
 refine FJ.e (goes_list rfl) rfl (by decide) rfl (e_box (cs := [.slice A0_0 f.inodes.length c0_0, .slice A0_1 f.data.length c0_1]) (n := 2) rfl (.t .z) rfl rfl) ?_
 rintro _ _ ⟨g3, rfl, rfl⟩
 refine FJ.e (goes_list rfl) rfl (by decide) rfl (e_alloc rfl z_28 rfl rfl) ?_
 rintro _ _ ⟨g4, rfl, rfl⟩
 refine FJ.nil (FJ.then_ (FJ.seq (FJ.seq (FJ.region ?_))))
 refine FJ.ql rfl (q_loadA (cs := [.slice A0_0 f.inodes.length c0_0, .slice A0_1 f.data.length c0_1]) rfl ag_26 sz_26 (.t (.s .z)) (WS.rows0 (.s .z) (fun i u h => by exact h))) ?_
 refine FJ.ql rfl (q_move rfl (.t (.s4 .z))) (FJ.ql rfl (q_move rfl (.t (.s4 (.s (.s .z))))) ?_)
 refine FJ.call (goes_list rfl) rfl (by decide) rfl (c_call rfl Tryz.func70 rfl rfl (args3 (.t (.s (.s .z))) (.t (.s .z)) (.t .z))) .n (fun w1 S1 hs tr => c_70 (kT_26_mk f (tr.ctx h0_0) (tr.ctx h0_1)) _ _ (by first | assumption | omega)) ?_
 rintro _ _ ⟨rfl, rfl⟩
 refine FJ.cat .n ?_
 refine FJ.ql rfl (q_assign rfl (.t .z)) (FJ.nil (FJ.then_ (FJ.seq (FJ.region ?_))))
 refine FJ.ql rfl (q_move rfl (.t .z)) (FJ.ql rfl (q_neq rfl (.t .z) .c) (FJ.nil (FJ.then_ ?_)))
 refine FJ.condN (.t .z) (fun b5 => ?_) (fun b5 => ?_)
 refine FJ.seq (FJ.region (FJ.ql rfl (q_move rfl (.t (.s (.s .z)))) ?_))
 refine FJ.ql rfl (q_build (ps := [(0, .int .i64 (nameCode f a s))]) (cs := [.int .i64 (nameCode f a s), .slice none 0 0, .slice none 0 0]) rfl bl_28 (by intro act hact; simp only [List.map_toArray, List.map_cons, List.map_nil, (show Val _ _ _ from (.t .z)) act hact]) rfl) ?_
 refine FJ.es (goes_list rfl) rfl (es_store (off := 0) (cs := [.int .i64 (nameCode f a s), .slice none 0 0, .slice none 0 0]) rfl sz_28 (.t (.s4 (.s4 (.s .z)))) (.t .z) rfl (ones rfl) .z (Nat.le_of_ble_eq_true rfl) (.c .z (.c (.s .z) (.c (.s (.s .z)) .n)))) ?_
 refine FJ.nil (FJ.then_ (FJ.ret (FJ.thenR ?_)))
 refine FJ.add (c := ownA kSl_66 [] [.slice none 0 0]) (fun w S => own_nil w S none) ?_
 refine FJ.add (c := ownA kSl_39 [] [.slice none 0 0]) (fun w S => own_nil w S none) ?_
 refine FJ.doneS (resC (cs := [.int .i64 (nameCode f a s), .slice none 0 0, .slice none 0 0]) rfl (.s4 (.s4 (.s .z))) ag_28 sz_28 (WS.rows0 (cs := [.int .i64 (nameCode f a s), .slice none 0 0, .slice none 0 0]) (.s (.s .z)) (fun _ _ h => h))) (.c (.s .z) (.c .z .n)) ?_
 first | (rw [dropNameR_f (by assumption)]; exact ⟨_, _, rfl, rfl⟩) | (rw [dropNameR_4 (by assumption) (by assumption)]; exact ⟨_, _, rfl, rfl⟩) | (rw [dropNameR_l (by assumption) (by assumption)]; exact ⟨_, _, rfl, rfl⟩)
 have hnd8 := nameOk b5
 have hdd8 := dirOk hnd8
 have hId8 := treeI hdd8.1
 obtain ⟨had8, hzd8⟩ := hdd8.2.1
 have ht := (dirOk (nameOk b5)).1
 refine FJ.skip (FJ.then_ (FJ.seq (FJ.region ?_)))
 refine FJ.ql rfl (q_loadA (cs := [.slice A0_0 f.inodes.length c0_0, .slice A0_1 f.data.length c0_1]) rfl ag_26 sz_26 (.t (.s4 (.s4 .z))) (WS.rows0 (.s .z) (fun i u h => by exact h))) ?_
 refine FJ.call (goes_list rfl) rfl (by decide) rfl (c_call rfl Tryz.func71 rfl rfl (args1 (.t .z))) .n (fun w1 S1 hs tr => c_71 (kT_26_mk f (tr.ctx h0_0) (tr.ctx h0_1))) ?_
 rintro _ _ ⟨v9, v11, rfl, rfl⟩
 refine FJ.cat (.c (.c .n)) ?_
 refine FJ.know (WS.oform .z) ?_
 rintro ⟨Ao13, co13, rfl, hlo13, hmo13, hbo13⟩
 refine FJ.know (WS.oform (.s .z)) ?_
 rintro ⟨Ao14, co14, rfl, hlo14, hmo14, hbo14⟩
 refine FJ.e (goes_list rfl) rfl (by decide) rfl (e_alloc rfl z_26 rfl rfl) ?_
 rintro _ _ ⟨g15, rfl, rfl⟩
 refine FJ.es (goes_list rfl) rfl (es_store (off := 0) (cs := [.slice Ao13 f.inodes.length co13, .slice Ao14 f.data.length co14]) rfl sz_26 (.t .z) (.t (.s .z)) rfl (ones rfl) .z (Nat.le_of_ble_eq_true rfl) (.c .z (.c (.s .z) .n))) ?_
 refine FJ.nil (FJ.then_ (FJ.seq (FJ.seq (FJ.region ?_))))
 refine FJ.ql rfl (q_move rfl (.t (.s4 (.s4 (.s4 (.s .z)))))) (FJ.ql rfl (q_move rfl (.t (.s4 (.s4 (.s4 (.s (.s (.s .z)))))))) ?_)
 refine FJ.call (goes_list rfl) rfl (by decide) rfl (c_call rfl Tryz.func72 rfl rfl (args3 (.t (.s (.s .z))) (.t (.s .z)) (.t .z))) .n (fun w1 S1 hs tr => c_72 (tr.ptr .z (kT_26_mk f (tr.own (.s .z)) (tr.own (.s (.s .z))))) _ _ (by first | assumption | omega) (by first | assumption | (constructor <;> omega))) ?_
 rintro _ _ ⟨rfl, rfl⟩
 refine FJ.cat .n ?_
 refine FJ.ql rfl (q_lss rfl (.t .z) .c) (FJ.nil (FJ.then_ ?_))
 refine FJ.condP (.t .z) (fun b16 => ?_) (fun b16 => ?_)
 refine FJ.seq (FJ.region ?_)
 refine FJ.ql rfl (q_build (ps := [(0, .int .i64 4)]) (cs := [.int .i64 4, .slice none 0 0, .slice none 0 0]) rfl bl_28 (by intro act hact; simp only [List.map_toArray, List.map_cons, List.map_nil, (show Val _ _ _ from .c) act hact]) rfl) ?_
 refine FJ.es (goes_list rfl) rfl (es_store (off := 0) (cs := [.int .i64 4, .slice none 0 0, .slice none 0 0]) rfl sz_28 (.t (.s4 (.s4 (.s4 (.s (.s (.s .z))))))) (.t .z) rfl (ones rfl) (.s (.s (.s .z))) (Nat.le_of_ble_eq_true rfl) (.c .z (.c (.s .z) (.c (.s (.s .z)) .n)))) ?_
 refine FJ.nil (FJ.then_ (FJ.ret (FJ.thenR ?_)))
 refine FJ.add (c := ownA kSl_66 [] [.slice none 0 0]) (fun w S => own_nil w S none) ?_
 refine FJ.add (c := ownA kSl_39 [] [.slice none 0 0]) (fun w S => own_nil w S none) ?_
 refine FJ.doneS (resC (cs := [.int .i64 4, .slice none 0 0, .slice none 0 0]) rfl (.s4 (.s4 (.s4 (.s (.s (.s .z)))))) ag_28 sz_28 (WS.rows0 (cs := [.int .i64 4, .slice none 0 0, .slice none 0 0]) (.s (.s .z)) (fun _ _ h => h))) (.c (.s .z) (.c .z .n)) ?_
 first | (rw [dropNameR_f (by assumption)]; exact ⟨_, _, rfl, rfl⟩) | (rw [dropNameR_4 (by assumption) (by assumption)]; exact ⟨_, _, rfl, rfl⟩) | (rw [dropNameR_l (by assumption) (by assumption)]; exact ⟨_, _, rfl, rfl⟩)
 refine FJ.skip (FJ.then_ (FJ.seq (FJ.region (FJ.ql rfl (q_move rfl (.t (.s16 (.s .z)))) ?_))))
 refine FJ.ql rfl (q_move rfl (.t (.s16 (.s (.s (.s .z)))))) ?_
 refine FJ.call (goes_list rfl) rfl (by decide) rfl (c_call rfl Tryz.func73 rfl rfl (args3 (.t (.s4 (.s (.s .z)))) (.t (.s .z)) (.t .z))) (.c .z (.c .z (.c .z .n))) (fun w1 S1 hs tr => c_73 (f := f) _ _ (by first | assumption | omega) hs (by assumption) (by first | assumption | (constructor <;> omega)) (by assumption)) ?_
 rintro _ _ ⟨v19, v21, rfl, rfl⟩
 refine FJ.cat (.c (.c (.c .n))) ?_
 refine FJ.know (WS.oform (.s .z)) ?_
 rintro ⟨Ao23, co23, rfl, hlo23, hmo23, hbo23⟩
 refine FJ.know (WS.oform (.s (.s .z))) ?_
 rintro ⟨Ao24, co24, rfl, hlo24, hmo24, hbo24⟩
 refine FJ.nil (FJ.then_ (FJ.seq (FJ.region ?_)))
 refine FJ.ql rfl (q_loadA (cs := [.slice Ao23 ((lessF (takeF f a (List.filter (notP (nameP s)) (entsAt (f).inodes a))) (lookI (entsAt (f).inodes a) s)).inodes).length co23, .slice Ao24 ((lessF (takeF f a (List.filter (notP (nameP s)) (entsAt (f).inodes a))) (lookI (entsAt (f).inodes a) s)).data).length co24]) rfl ag_26 sz_26 (.t (.s4 (.s (.s (.s .z))))) (WS.rows0 .z (fun i u h => by exact h))) ?_
 refine FJ.ql rfl (q_build (ps := [(1, .agg #[.slice Ao23 ((lessF (takeF f a (List.filter (notP (nameP s)) (entsAt (f).inodes a))) (lookI (entsAt (f).inodes a) s)).inodes).length co23, .slice Ao24 ((lessF (takeF f a (List.filter (notP (nameP s)) (entsAt (f).inodes a))) (lookI (entsAt (f).inodes a) s)).data).length co24])]) (cs := [.int .i64 0, .slice Ao23 ((lessF (takeF f a (List.filter (notP (nameP s)) (entsAt (f).inodes a))) (lookI (entsAt (f).inodes a) s)).inodes).length co23, .slice Ao24 ((lessF (takeF f a (List.filter (notP (nameP s)) (entsAt (f).inodes a))) (lookI (entsAt (f).inodes a) s)).data).length co24]) rfl bl_28 (by intro act hact; simp only [List.map_toArray, List.map_cons, List.map_nil, (show Val _ _ _ from (.t .z)) act hact]) rfl) ?_
 refine FJ.es (goes_list rfl) rfl (es_store (off := 0) (cs := [.int .i64 0, .slice Ao23 ((lessF (takeF f a (List.filter (notP (nameP s)) (entsAt (f).inodes a))) (lookI (entsAt (f).inodes a) s)).inodes).length co23, .slice Ao24 ((lessF (takeF f a (List.filter (notP (nameP s)) (entsAt (f).inodes a))) (lookI (entsAt (f).inodes a) s)).data).length co24]) rfl sz_28 (.t (.s16 (.s (.s (.s .z))))) (.t .z) rfl (ones rfl) (.s (.s (.s .z))) (Nat.le_of_ble_eq_true rfl) (.c .z (.c (.s .z) (.c (.s (.s .z)) .n)))) ?_
 refine FJ.nil (FJ.then_ (FJ.ret ?_))
 refine FJ.doneS (resC (cs := [.int .i64 0, .slice Ao23 ((lessF (takeF f a (List.filter (notP (nameP s)) (entsAt (f).inodes a))) (lookI (entsAt (f).inodes a) s)).inodes).length co23, .slice Ao24 ((lessF (takeF f a (List.filter (notP (nameP s)) (entsAt (f).inodes a))) (lookI (entsAt (f).inodes a) s)).data).length co24]) rfl (.s16 (.s (.s (.s .z)))) ag_28 sz_28 (WS.rows0 (cs := [.int .i64 0, .slice Ao23 ((lessF (takeF f a (List.filter (notP (nameP s)) (entsAt (f).inodes a))) (lookI (entsAt (f).inodes a) s)).inodes).length co23, .slice Ao24 ((lessF (takeF f a (List.filter (notP (nameP s)) (entsAt (f).inodes a))) (lookI (entsAt (f).inodes a) s)).data).length co24]) .z (fun _ _ h => h))) (.c (.s (.s .z)) (.c (.s (.s .z)) .n)) ?_
 first | (rw [dropNameR_f (by assumption)]; exact ⟨_, _, rfl, rfl⟩) | (rw [dropNameR_4 (by assumption) (by assumption)]; exact ⟨_, _, rfl, rfl⟩) | (rw [dropNameR_l (by assumption) (by assumption)]; exact ⟨_, _, rfl, rfl⟩)

set_option maxHeartbeats 1000000 in
set_option maxRecDepth 20000 in
theorem c_30 {w0 : World} {S0 : Bs} {f : DFs} {cs0 : List Value} (h0 : kT_26.ro w0 (FF w0 S0) f cs0) (a : Int) (s : ByteArray) (hz2 : s.size ≤ 140737488351232)  :
    Calls Tryz.prog 30 #[.agg cs0.toArray, .int .i64 a, .string s] w0 (TriPost w0 S0 (RA_28 (dropNameR f a s))) := by
 obtain ⟨u0_0, u0_1, rfl, h0_0, h0_1⟩ := kT_26_ro h0
 obtain ⟨A0_0, c0_0, rfl, hl0_0, hm0_0, hb0_0, he0_0⟩ := ro_form h0_0
 obtain ⟨A0_1, c0_1, rfl, hl0_1, hm0_1, hb0_1, he0_1⟩ := ro_form h0_1
 refine FJ.enter (N := 38) Tryz.func30 rfl rfl (by simp) [(0, .agg #[.slice A0_0 f.inodes.length c0_0, .slice A0_1 f.data.length c0_1]), (1, .int .i64 a), (2, .string s)] (by simp) (l0 := []) trivial ?_
 refine FJ.seq (FJ.region ?_)
 refine FJ.e (goes_list rfl) rfl (by decide) rfl (e_box (cs := [.slice A0_0 f.inodes.length c0_0, .slice A0_1 f.data.length c0_1]) (n := 2) rfl (.t .z) rfl rfl) ?_
 rintro _ _ ⟨g3, rfl, rfl⟩
 refine FJ.e (goes_list rfl) rfl (by decide) rfl (e_alloc rfl z_28 rfl rfl) ?_
 rintro _ _ ⟨g4, rfl, rfl⟩
 refine FJ.nil (FJ.then_ (FJ.seq (FJ.seq (FJ.region ?_))))
 refine FJ.ql rfl (q_move rfl (.t (.s (.s (.s .z))))) (FJ.ql rfl (q_move rfl (.t (.s4 (.s .z)))) ?_)
 refine FJ.call (goes_list rfl) rfl (by decide) rfl (c_call rfl Tryz.func65 rfl rfl (args3 (.t (.s (.s (.s .z)))) (.t (.s .z)) (.t .z))) .n (fun w1 S1 hs tr => c_65 (tr.ptr (.s .z) (kT_26_mk f (tr.ctx h0_0) (tr.ctx h0_1))) _ _ (by first | assumption | omega)) ?_
 rintro _ _ ⟨rfl, rfl⟩
 refine FJ.cat .n ?_
 refine FJ.ql rfl (q_assign rfl (.t .z)) (FJ.nil (FJ.then_ (FJ.seq (FJ.region ?_))))
 refine FJ.ql rfl (q_move rfl (.t .z)) (FJ.ql rfl (q_neq rfl (.t .z) .c) (FJ.nil (FJ.then_ ?_)))
 refine FJ.condN (.t .z) (fun b5 => ?_) (fun b5 => ?_)
 refine FJ.seq (FJ.region (FJ.ql rfl (q_move rfl (.t (.s (.s .z)))) ?_))
 refine FJ.ql rfl (q_build (ps := [(0, .int .i64 (nameCode f a s))]) (cs := [.int .i64 (nameCode f a s), .slice none 0 0, .slice none 0 0]) rfl bl_28 (by intro act hact; simp only [List.map_toArray, List.map_cons, List.map_nil, (show Val _ _ _ from (.t .z)) act hact]) rfl) ?_
 refine FJ.es (goes_list rfl) rfl (es_store (off := 0) (cs := [.int .i64 (nameCode f a s), .slice none 0 0, .slice none 0 0]) rfl sz_28 (.t (.s4 (.s4 .z))) (.t .z) rfl (ones rfl) .z (Nat.le_of_ble_eq_true rfl) (.c .z (.c (.s .z) (.c (.s (.s .z)) .n)))) ?_
 refine FJ.nil (FJ.then_ (FJ.ret (FJ.thenR ?_)))
 refine FJ.add (c := ownA kSl_66 [] [.slice none 0 0]) (fun w S => own_nil w S none) ?_
 refine FJ.add (c := ownA kSl_39 [] [.slice none 0 0]) (fun w S => own_nil w S none) ?_
 refine FJ.doneS (resC (cs := [.int .i64 (nameCode f a s), .slice none 0 0, .slice none 0 0]) rfl (.s4 (.s4 .z)) ag_28 sz_28 (WS.rows0 (cs := [.int .i64 (nameCode f a s), .slice none 0 0, .slice none 0 0]) (.s (.s .z)) (fun _ _ h => h))) (.c (.s .z) (.c .z .n)) ?_
 first | (rw [dropNameR_f (by assumption)]; exact ⟨_, _, rfl, rfl⟩) | (rw [dropNameR_4 (by assumption) (by assumption)]; exact ⟨_, _, rfl, rfl⟩) | (rw [dropNameR_l (by assumption) (by assumption)]; exact ⟨_, _, rfl, rfl⟩)
 have hnd8 := nameOk b5
 have hdd8 := dirOk hnd8
 have hId8 := treeI hdd8.1
 obtain ⟨had8, hzd8⟩ := hdd8.2.1
 have ht := (dirOk (nameOk b5)).1
 refine FJ.skip (FJ.then_ (FJ.seq (FJ.region (FJ.ql rfl (q_fieldAddr rfl (.t (.s4 (.s (.s (.s .z))))) (fun _ => fa_26_0 _ _)) ?_))))
 refine FJ.ql rfl (q_load rfl ag_24 (.t .z) (WS.row (.s .z) rfl)) (FJ.ql rfl (q_move rfl (.t (.s4 (.s4 (.s (.s (.s .z))))))) ?_)
 obtain ⟨ad9, hAad9, hrad9⟩ := he0_0 (by omega)
 subst hAad9
 obtain ⟨x10, hx10⟩ := get_ex (xs := f.inodes) (j := Int.toNat a) (by omega)
 obtain ⟨ece11, hre11, hFe11, hce11⟩ := hrad9.elem hx10
 obtain ⟨ue11_3, ue11_4, rfl, he11_3, he11_4⟩ := kT_66_ro hre11
 obtain ⟨Ae11_3, ce11_3, rfl, hle11_3, hme11_3, hbe11_3, hee11_3⟩ := ro_form he11_3
 obtain ⟨Ae11_4, ce11_4, rfl, hle11_4, hme11_4, hbe11_4, hee11_4⟩ := ro_form he11_4
 have kx10 := kind_at (i := a) hx10 (by omega)
 have nx10 := ents_at (a := a) hx10 (by omega)
 have iox10 := inodes_all hId8 _ (List.mem_of_getElem? hx10)
 refine FJ.ql rfl (q_indexAddr (j := Int.toNat a) rfl u_24 sz_66 (.t (.s .z)) (.t .z) (by omega) (by omega)) ?_
 refine FJ.ql rfl (q_fieldAddr rfl (.t .z) (fun _ => fa_66_4 _ _)) (FJ.ql rfl (q_load rfl ag_64 (.t .z) (WS.el hFe11 hce11 rfl)) (FJ.ql rfl (q_move rfl (.t (.s16 .z))) ?_))
 refine FJ.call (goes_list rfl) rfl (by decide) rfl (c_call rfl Tryz.func66 rfl rfl (args2 (.t (.s .z)) (.t .z))) .n (fun w1 S1 hs tr => c_66 (tr.ctx he11_4) _ (by first | assumption | omega)) ?_
 rintro _ _ ⟨rfl, rfl⟩
 refine FJ.cat .n ?_
 refine FJ.ql rfl (q_assign rfl (.t .z)) (FJ.nil (FJ.then_ (FJ.seq (FJ.seq ?_))))
 refine FJ.region (FJ.ql rfl (q_move rfl (.t .z)) (FJ.ql rfl (q_lss rfl (.t .z) .c) (FJ.nil (FJ.then_ ?_))))
 refine FJ.condP (.t .z) (fun b14 => ?_) (fun b14 => ?_)
 refine FJ.seq (FJ.region ?_)
 refine FJ.ql rfl (q_build (ps := [(0, .int .i64 4)]) (cs := [.int .i64 4, .slice none 0 0, .slice none 0 0]) rfl bl_28 (by intro act hact; simp only [List.map_toArray, List.map_cons, List.map_nil, (show Val _ _ _ from .c) act hact]) rfl) ?_
 refine FJ.es (goes_list rfl) rfl (es_store (off := 0) (cs := [.int .i64 4, .slice none 0 0, .slice none 0 0]) rfl sz_28 (.t (.s16 (.s (.s .z)))) (.t .z) rfl (ones rfl) .z (Nat.le_of_ble_eq_true rfl) (.c .z (.c (.s .z) (.c (.s (.s .z)) .n)))) ?_
 refine FJ.nil (FJ.then_ (FJ.ret (FJ.thenR ?_)))
 refine FJ.add (c := ownA kSl_66 [] [.slice none 0 0]) (fun w S => own_nil w S none) ?_
 refine FJ.add (c := ownA kSl_39 [] [.slice none 0 0]) (fun w S => own_nil w S none) ?_
 refine FJ.doneS (resC (cs := [.int .i64 4, .slice none 0 0, .slice none 0 0]) rfl (.s16 (.s (.s .z))) ag_28 sz_28 (WS.rows0 (cs := [.int .i64 4, .slice none 0 0, .slice none 0 0]) (.s (.s .z)) (fun _ _ h => h))) (.c (.s .z) (.c .z .n)) ?_
 first | (rw [dropNameR_f (by assumption)]; exact ⟨_, _, rfl, rfl⟩) | (rw [dropNameR_4 (by assumption) (by assumption)]; exact ⟨_, _, rfl, rfl⟩) | (rw [dropNameR_l (by assumption) (by assumption)]; exact ⟨_, _, rfl, rfl⟩) | (rw [dropNameR_n (by assumption) (by rw [nx10]; assumption)]; exact ⟨_, _, rfl, rfl⟩) | (rw [dropNameR_i (ix := ix) (by assumption) hpos hixe]; exact ⟨_, _, rfl, rfl⟩)
 obtain ⟨ix, hix, hil, -⟩ := idxF_at (show ¬ idxF (nameP s) x10.ents = -1 by omega)
 refine FJ.eq (.s (.s .z)) (congrArg (Value.int .i64) hix) ?_
 have hixe : idxF (nameP s) (entsAt f.inodes a) = (ix : Int) := by rw [nx10]; exact hix
 have hile : ix < (entsAt f.inodes a).length := by rw [nx10]; exact hil
 have hkp := ino_place ht hile
 have hpos := hkp.1
 have hq := less_pre (a := a) (es := List.eraseIdx (entsAt f.inodes a) ix) ht (List.eraseIdx_sublist ..) hkp
 refine FJ.skip (FJ.then_ (FJ.seq (FJ.region ?_)))
 refine FJ.ql rfl (q_loadA (cs := [.slice (some ad9) f.inodes.length c0_0, .slice A0_1 f.data.length c0_1]) rfl ag_26 sz_26 (.t (.s16 (.s (.s .z)))) (WS.rows0 (.s .z) (fun i u h => by exact h))) ?_
 refine FJ.call (goes_list rfl) rfl (by decide) rfl (c_call rfl Tryz.func67 rfl rfl (args1 (.t .z))) .n (fun w1 S1 hs tr => c_67 (kT_26_mk f (tr.ctx h0_0) (tr.ctx h0_1))) ?_
 rintro _ _ ⟨v17, v19, rfl, rfl⟩
 refine FJ.cat (.c (.c .n)) ?_
 refine FJ.know (WS.oform .z) ?_
 rintro ⟨Ao21, co21, rfl, hlo21, hmo21, hbo21⟩
 refine FJ.know (WS.oform (.s .z)) ?_
 rintro ⟨Ao22, co22, rfl, hlo22, hmo22, hbo22⟩
 refine FJ.e (goes_list rfl) rfl (by decide) rfl (e_alloc rfl z_26 rfl rfl) ?_
 rintro _ _ ⟨g23, rfl, rfl⟩
 refine FJ.es (goes_list rfl) rfl (es_store (off := 0) (cs := [.slice Ao21 f.inodes.length co21, .slice Ao22 f.data.length co22]) rfl sz_26 (.t .z) (.t (.s .z)) rfl (ones rfl) .z (Nat.le_of_ble_eq_true rfl) (.c .z (.c (.s .z) .n))) ?_
 refine FJ.nil (FJ.then_ (FJ.seq (FJ.region (FJ.ql rfl (q_move rfl (.t (.s16 (.s4 (.s (.s (.s .z))))))) ?_))))
 refine FJ.ql rfl (q_move rfl (.t (.s4 .z))) ?_
 refine FJ.call (goes_list rfl) rfl (by decide) rfl (c_call rfl Tryz.func68 rfl rfl (args3 (.t (.s (.s .z))) (.t (.s .z)) (.t .z))) (.c .z (.c .z (.c .z .n))) (fun w1 S1 hs tr => c_68 (f := f) _ _ hs (by first | assumption | (constructor <;> omega)) (by omega)) ?_
 rintro _ _ ⟨v24, v26, rfl, rfl⟩
 refine FJ.cat (.c (.c (.c .n))) ?_
 refine FJ.know (WS.oform (.s .z)) ?_
 rintro ⟨Ao28, co28, rfl, hlo28, hmo28, hbo28⟩
 refine FJ.know (WS.oform (.s (.s .z))) ?_
 rintro ⟨Ao29, co29, rfl, hlo29, hmo29, hbo29⟩
 refine FJ.ql rfl (q_assign rfl (.t .z)) (FJ.nil (FJ.then_ (FJ.seq (FJ.region ?_))))
 refine FJ.ql rfl (q_move rfl (.t .z)) ?_
 refine FJ.call (goes_list rfl) rfl (by decide) rfl (c_call rfl Tryz.func69 rfl rfl (args2 (.t (.s4 (.s .z))) (.t .z))) (.c .z (.c .z (.c .z .n))) (fun w1 S1 hs tr => c_69 (f := (takeF f a (List.eraseIdx (entsAt (f).inodes a) ix))) _ hs (by assumption)) ?_
 rintro _ _ ⟨v30, v32, rfl, rfl⟩
 refine FJ.cat (.c (.c (.c .n))) ?_
 refine FJ.know (WS.oform (.s .z)) ?_
 rintro ⟨Ao34, co34, rfl, hlo34, hmo34, hbo34⟩
 refine FJ.know (WS.oform (.s (.s .z))) ?_
 rintro ⟨Ao35, co35, rfl, hlo35, hmo35, hbo35⟩
 refine FJ.nil (FJ.then_ (FJ.seq (FJ.region ?_)))
 refine FJ.ql rfl (q_loadA (cs := [.slice Ao34 ((lessF (takeF f a (List.eraseIdx (entsAt (f).inodes a) ix)) (inoAt (entsAt (f).inodes a) ix)).inodes).length co34, .slice Ao35 ((lessF (takeF f a (List.eraseIdx (entsAt (f).inodes a) ix)) (inoAt (entsAt (f).inodes a) ix)).data).length co35]) rfl ag_26 sz_26 (.t (.s4 (.s (.s .z)))) (WS.rows0 .z (fun i u h => by exact h))) ?_
 refine FJ.ql rfl (q_build (ps := [(1, .agg #[.slice Ao34 ((lessF (takeF f a (List.eraseIdx (entsAt (f).inodes a) ix)) (inoAt (entsAt (f).inodes a) ix)).inodes).length co34, .slice Ao35 ((lessF (takeF f a (List.eraseIdx (entsAt (f).inodes a) ix)) (inoAt (entsAt (f).inodes a) ix)).data).length co35])]) (cs := [.int .i64 0, .slice Ao34 ((lessF (takeF f a (List.eraseIdx (entsAt (f).inodes a) ix)) (inoAt (entsAt (f).inodes a) ix)).inodes).length co34, .slice Ao35 ((lessF (takeF f a (List.eraseIdx (entsAt (f).inodes a) ix)) (inoAt (entsAt (f).inodes a) ix)).data).length co35]) rfl bl_28 (by intro act hact; simp only [List.map_toArray, List.map_cons, List.map_nil, (show Val _ _ _ from (.t .z)) act hact]) rfl) ?_
 refine FJ.es (goes_list rfl) rfl (es_store (off := 0) (cs := [.int .i64 0, .slice Ao34 ((lessF (takeF f a (List.eraseIdx (entsAt (f).inodes a) ix)) (inoAt (entsAt (f).inodes a) ix)).inodes).length co34, .slice Ao35 ((lessF (takeF f a (List.eraseIdx (entsAt (f).inodes a) ix)) (inoAt (entsAt (f).inodes a) ix)).data).length co35]) rfl sz_28 (.t (.s16 (.s4 (.s4 (.s4 .z))))) (.t .z) rfl (ones rfl) (.s (.s (.s .z))) (Nat.le_of_ble_eq_true rfl) (.c .z (.c (.s .z) (.c (.s (.s .z)) .n)))) ?_
 refine FJ.nil (FJ.then_ (FJ.ret ?_))
 refine FJ.doneS (resC (cs := [.int .i64 0, .slice Ao34 ((lessF (takeF f a (List.eraseIdx (entsAt (f).inodes a) ix)) (inoAt (entsAt (f).inodes a) ix)).inodes).length co34, .slice Ao35 ((lessF (takeF f a (List.eraseIdx (entsAt (f).inodes a) ix)) (inoAt (entsAt (f).inodes a) ix)).data).length co35]) rfl (.s16 (.s4 (.s4 (.s4 .z)))) ag_28 sz_28 (WS.rows0 (cs := [.int .i64 0, .slice Ao34 ((lessF (takeF f a (List.eraseIdx (entsAt (f).inodes a) ix)) (inoAt (entsAt (f).inodes a) ix)).inodes).length co34, .slice Ao35 ((lessF (takeF f a (List.eraseIdx (entsAt (f).inodes a) ix)) (inoAt (entsAt (f).inodes a) ix)).data).length co35]) .z (fun _ _ h => h))) (.c (.s (.s .z)) (.c (.s (.s .z)) .n)) ?_
 first | (rw [dropNameR_f (by assumption)]; exact ⟨_, _, rfl, rfl⟩) | (rw [dropNameR_4 (by assumption) (by assumption)]; exact ⟨_, _, rfl, rfl⟩) | (rw [dropNameR_l (by assumption) (by assumption)]; exact ⟨_, _, rfl, rfl⟩) | (rw [dropNameR_n (by assumption) (by rw [nx10]; assumption)]; exact ⟨_, _, rfl, rfl⟩) | (rw [dropNameR_i (ix := ix) (by assumption) hpos hixe]; exact ⟨_, _, rfl, rfl⟩)

end Go.Proofs.YtbcdcakcmdcafaaGreat

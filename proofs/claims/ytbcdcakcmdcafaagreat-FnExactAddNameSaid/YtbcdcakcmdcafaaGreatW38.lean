/- What is proved: contracts of functions, one a function. No condition. -/
import Derived.Test.YtbcdcakcmdcafaaGreatW37
namespace Go.Proofs.YtbcdcakcmdcafaaGreat
open Go Go.RowKit
set_option linter.unusedVariables false
set_option linter.unusedSimpArgs false
set_option maxHeartbeats 1000000 in
set_option maxRecDepth 20000 in
theorem c_78 {w0 : World} {S0 : Bs} {f : DFs} {g0 e0 s0 : Nat} {post0 : List Value} {v0_0 : Value} {v0_1 : Value} (a : Int) (s : ByteArray) (hz2 : s.size ≤ 140737488351232) (b : Int) (hs : Star [rowA g0 e0 s0 1 (v0_0 :: v0_1 :: post0), ownA kSl_66 f.inodes [v0_0], ownA kSl_39 f.data [v0_1]] w0 S0) (ht : treeFault f = 0) (hp : placeIn f.inodes.length a) (h6 : (entsAt f.inodes a).length ≤ 6) :
    Calls Tryz.prog 78 #[.pointer (some ⟨g0, 0, none⟩), .int .i64 a, .string s, .int .i64 b] w0 (TriPost w0 S0 (fun r l => ∃ v0 v1, r = .int .i64 (addC f a s b) ∧ l = [rowA g0 e0 s0 1 (v0 :: v1 :: post0), ownA kSl_66 (addF f a s b).inodes [v0], ownA kSl_39 (addF f a s b).data [v1]])) := by
 obtain ⟨hp1, hp2⟩ := hp
 have hI := treeI ht
 refine FJ.enter (N := 83) Tryz.func78 rfl rfl (by simp) [(0, .pointer (some ⟨g0, 0, none⟩)), (1, .int .i64 a), (2, .string s), (3, .int .i64 b)] (by simp) hs ?_
 refine FJ.know (WS.oform (.s .z)) ?_
 rintro ⟨Ao1, co1, rfl, hlo1, hmo1, hbo1⟩
 refine FJ.know (WS.oform (.s (.s .z))) ?_
 rintro ⟨Ao2, co2, rfl, hlo2, hmo2, hbo2⟩
 refine FJ.seq (FJ.region (FJ.ql rfl (q_assign rfl .c) (FJ.nil (FJ.then_ ?_))))
 refine FJ.seq (FJ.block (FJ.seq (FJ.region (FJ.ql rfl (q_move rfl (.t (.s .z))) ?_))))
 refine FJ.ql rfl (q_move rfl (.t (.s (.s (.s .z))))) (FJ.ql rfl (q_move rfl (.t (.s4 (.s .z)))) ?_)
 refine FJ.call (goes_list rfl) rfl (by decide) rfl (c_call rfl Tryz.func72 rfl rfl (args3 (.t (.s (.s .z))) (.t (.s .z)) (.t .z))) .n (fun w1 S1 hs tr => c_72 (tr.ptrpre .z (kT_26_mk f (tr.own (.s .z)) (tr.own (.s (.s .z)))) (pre_at (cs := [.slice Ao1 f.inodes.length co1, .slice Ao2 f.data.length co2]) (k := 2) rfl rfl)) _ _ (by first | assumption | omega) (by first | assumption | (constructor <;> omega))) ?_
 rintro _ _ ⟨rfl, rfl⟩
 refine FJ.cat .n ?_
 refine FJ.ql rfl (q_geq rfl (.t .z) .c) (FJ.ql rfl (q_assign rfl (.t .z)) (FJ.nil (FJ.then_ ?_)))
 refine FJ.condP (.t .z) (fun b3 => ?_) (fun b3 => ?_)
 refine FJ.seq (FJ.region (FJ.er (.s4 (.s (.s .z))) (FJ.ql rfl (q_assign rfl .c) (FJ.nil ?_))))
 refine FJ.then_ (FJ.ret (FJ.inBR (FJ.thenR ?_)))
 have hlk : kindAt f.inodes b = 1 ∨ linksAt f.inodes b = 0 := by by_cases hk : kindAt f.inodes b = 1; exact .inl hk; exact .inr (links_kind hI hk)
 refine FJ.doneS (res1 rfl .z) (.c .z (.c .z (.c .z .n))) ?_
 first | (have hc := addC_7 (f := f) (a := a) (s := s) (b := b) (by omega); exact ⟨_, _, by rw [hc], by rw [addF_n (by rw [hc]; decide)]⟩) | (have hc := addC_4 (f := f) (a := a) (s := s) (b := b) (by omega) (by rintro ⟨⟨h1, h2⟩, h3⟩; first | omega | (simp_all; done) | (simp_all; omega)); exact ⟨_, _, by rw [hc], by rw [addF_n (by rw [hc]; decide)]⟩) | (have hc := addC_2 (f := f) (a := a) (s := s) (b := b) (by omega) ⟨⟨by omega, by omega⟩, by omega⟩ (by omega); exact ⟨_, _, by rw [hc], by rw [addF_n (by rw [hc]; decide)]⟩) | (have hc := addC_0 (f := f) (a := a) (s := s) (b := b) (by omega) ⟨⟨by omega, by omega⟩, by omega⟩ (by omega); exact ⟨_, _, by rw [hc], by rw [addF_d hc (by omega)]⟩) | (have hc := addC_0 (f := f) (a := a) (s := s) (b := b) (by omega) ⟨⟨by omega, by omega⟩, by omega⟩ (by omega); exact ⟨_, _, by rw [hc], by rw [addF_f hc (by omega)]⟩)
 refine FJ.seq (FJ.region (FJ.ql rfl (q_move rfl (.t (.s4 (.s4 (.s (.s .z)))))) (FJ.ql rfl (q_move rfl (.t (.s4 (.s4 .z)))) (FJ.ql rfl (q_nilCheck rfl (.t .z)) ?_))))
 refine FJ.ql rfl (q_fieldAddr rfl (.t .z) (fun _ => fa_26_0 _ _)) (FJ.ql rfl (q_load rfl ag_24 (.t .z) (WS.row .z rfl)) ?_)
 refine FJ.call (goes_list rfl) rfl (by decide) rfl (c_call rfl Tryz.func100 rfl rfl (args1 (.t .z))) .n (fun w1 S1 hs tr => c_100 (tr.own (.s .z))) ?_
 rintro _ _ ⟨rfl, rfl⟩
 refine FJ.cat .n ?_
 refine FJ.ql rfl (q_sub (c := (f.inodes.length : Int) - 1) rfl (.t .z) .c (wr (by omega) (by omega) (by omega))) ?_
 refine FJ.call (goes_list rfl) rfl (by decide) rfl (c_call rfl Tryz.func99 rfl rfl (args3 (.t (.s4 (.s (.s .z)))) .c (.t .z))) .n (fun w1 S1 hs tr => c_99 _ _ _) ?_
 rintro _ _ ⟨rfl, rfl⟩
 refine FJ.cat .n ?_
 refine FJ.ql rfl (q_not rfl (.t .z)) (FJ.ql rfl (q_move rfl (.t .z)) ?_)
 refine FJ.caseN .z (fun g4 => ?_) (fun g4 => ?_)
 refine FJ.skipl rfl rfl .z rfl rfl (by decide) rfl ?_
 refine FJ.skipl rfl rfl (.s .z) rfl rfl (by decide) rfl ?_
 refine FJ.skipl rfl rfl (.s (.s .z)) rfl rfl (by decide) rfl ?_
 refine FJ.skipl rfl rfl (.s (.s (.s .z))) rfl rfl (by decide) rfl ?_
 refine FJ.skipl rfl rfl (.s4 .z) rfl rfl (by decide) rfl ?_
 refine FJ.skipl rfl rfl (.s4 (.s .z)) rfl rfl (by decide) rfl ?_
 refine FJ.skipl rfl rfl (.s4 (.s (.s .z))) rfl rfl (by decide) rfl ?_
 refine FJ.skipl rfl rfl (.s4 (.s (.s (.s .z)))) rfl rfl (by decide) rfl ?_
 refine FJ.skipl rfl rfl (.s4 (.s4 .z)) rfl rfl (by decide) rfl ?_
 refine FJ.ql rfl (q_pickT rfl (.t (.s4 (.s4 (.s .z)))) .c) (FJ.ql rfl (q_assign rfl (.t .z)) (FJ.nil (FJ.then_ ?_)))
 refine FJ.condT (.t .z) ?_
 refine FJ.seq (FJ.region (FJ.er (.s16 (.s4 (.s4 (.s (.s (.s .z)))))) (FJ.ql rfl (q_assign rfl .c) (FJ.nil ?_))))
 refine FJ.then_ (FJ.ret (FJ.inBR (FJ.thenR ?_)))
 have hlk : kindAt f.inodes b = 1 ∨ linksAt f.inodes b = 0 := by by_cases hk : kindAt f.inodes b = 1; exact .inl hk; exact .inr (links_kind hI hk)
 refine FJ.doneS (res1 rfl .z) (.c .z (.c .z (.c .z .n))) ?_
 first | (have hc := addC_7 (f := f) (a := a) (s := s) (b := b) (by omega); exact ⟨_, _, by rw [hc], by rw [addF_n (by rw [hc]; decide)]⟩) | (have hc := addC_4 (f := f) (a := a) (s := s) (b := b) (by omega) (by rintro ⟨⟨h1, h2⟩, h3⟩; first | omega | (simp_all; done) | (simp_all; omega)); exact ⟨_, _, by rw [hc], by rw [addF_n (by rw [hc]; decide)]⟩) | (have hc := addC_2 (f := f) (a := a) (s := s) (b := b) (by omega) ⟨⟨by omega, by omega⟩, by omega⟩ (by omega); exact ⟨_, _, by rw [hc], by rw [addF_n (by rw [hc]; decide)]⟩) | (have hc := addC_0 (f := f) (a := a) (s := s) (b := b) (by omega) ⟨⟨by omega, by omega⟩, by omega⟩ (by omega); exact ⟨_, _, by rw [hc], by rw [addF_d hc (by omega)]⟩) | (have hc := addC_0 (f := f) (a := a) (s := s) (b := b) (by omega) ⟨⟨by omega, by omega⟩, by omega⟩ (by omega); exact ⟨_, _, by rw [hc], by rw [addF_f hc (by omega)]⟩)
 refine FJ.q (goes_listg rfl rfl .z) rfl (by decide) rfl (q_move rfl (.t (.s16 (.s .z)))) ?_
 refine FJ.q (goes_listg rfl rfl (.s .z)) rfl (by decide) rfl (q_nilCheck rfl (.t .z)) ?_
 refine FJ.q (goes_listg rfl rfl (.s (.s .z))) rfl (by decide) rfl (q_fieldAddr rfl (.t .z) (fun _ => fa_26_0 _ _)) ?_
 refine FJ.q (goes_listg rfl rfl (.s (.s (.s .z)))) rfl (by decide) rfl (q_load rfl ag_24 (.t .z) (WS.row .z rfl)) ?_
 refine FJ.q (goes_listg rfl rfl (.s4 .z)) rfl (by decide) rfl (q_move rfl (.t (.s16 (.s4 (.s4 .z))))) ?_
 refine FJ.open (.c (.s .z) .n) own_raw ?_
 rintro fc5 hlfc5
 obtain ⟨y6, hy6⟩ := get_ex (xs := f.inodes) (j := Int.toNat b) (by first | omega | (simp only [takeF, withE_len, withL_len]; omega))
 obtain ⟨c7, hc7⟩ := get_ex (xs := fc5) (j := Int.toNat b) (by rw [hlfc5]; exact (List.getElem?_eq_some_iff.1 hy6).1)
 refine FJ.turn (.s .z) (seq_split hy6 hc7) ?_
 refine FJ.open (.c .z .n) kT_66_op ?_
 rintro ⟨v8, v9⟩ rfl
 refine FJ.know (WS.oform .z) ?_
 rintro ⟨Ao12, co12, rfl, hlo12, hmo12, hbo12⟩
 refine FJ.know (WS.oform (.s .z)) ?_
 rintro ⟨Ao13, co13, rfl, hlo13, hmo13, hbo13⟩
 have ky6 := kind_at (i := b) hy6 (by omega)
 have ny6 := ents_at (a := b) hy6 (by omega)
 have ly6 := links_at (a := b) hy6 (by omega)
 have hqy6 : (entsAt f.inodes b).length = y6.ents.length := by rw [ny6]
 refine FJ.know (WS.oad (.s4 .z) (by omega)) ?_
 rintro ⟨ad14, rfl⟩
 refine FJ.q (goes_listg rfl rfl (.s4 (.s .z))) rfl (by decide) rfl (q_indexAddr (j := Int.toNat b) rfl u_24 sz_66 (.t (.s .z)) (.t .z) (by omega) (by first | omega | (simp only [takeF, withE_len, withL_len]; omega))) ?_
 refine FJ.q (goes_listg rfl rfl (.s4 (.s (.s .z)))) rfl (by decide) rfl (q_fieldAddr rfl (.t .z) (fun _ => fa_66_0 _ _)) ?_
 refine FJ.q (goes_listg rfl rfl (.s4 (.s (.s (.s .z))))) rfl (by decide) rfl (q_load rfl ag_2 (.t .z) (WS.raw (.s4 .z) hc7 rfl)) ?_
 refine FJ.q (goes_listg rfl rfl (.s4 (.s4 .z))) rfl (by decide) rfl (q_eql rfl (.t .z) .c) ?_
 refine FJ.ql rfl (q_pickF rfl (.t (.s4 (.s4 (.s .z)))) (.t .z)) (FJ.ql rfl (q_assign rfl (.t .z)) (FJ.nil (FJ.then_ ?_)))
 refine FJ.condP (.t .z) (fun b16 => ?_) (fun b16 => ?_)
 refine FJ.seq (FJ.region (FJ.er (.s16 (.s4 (.s4 (.s (.s (.s .z)))))) (FJ.ql rfl (q_assign rfl .c) (FJ.nil ?_))))
 refine FJ.then_ (FJ.ret (FJ.inBR (FJ.thenR ?_)))
 refine FJ.turns (c := ownA kT_66 y6 [.int .i64 y6.kind, .int .i64 y6.links, .int .i64 y6.size, .slice Ao12 y6.blocks.length co12, .slice Ao13 y6.ents.length co13]) (.c .z (.c .z .n)) (fun w S h => kT_66_omk y6 h) ?_
 refine FJ.turns (c := ownA kSl_66 f.inodes [.slice (some ad14) f.inodes.length co1]) (.c (.s (.s (.s .z))) (.c .z (.c .z (.c .z .n)))) (own_unfocus0 (K := kT_66) hlfc5 hy6 hc7) ?_
 have hley6 : (entsAt f.inodes a).length = y6.ents.length ∨ True := .inr trivial
 try have hlny6 : (entsAt f.inodes a).length = y6.ents.length := by rw [ny6]
 have hloy6 := look_or (s := s) ht ny6
 have hlk : kindAt f.inodes b = 1 ∨ linksAt f.inodes b = 0 := by by_cases hk : kindAt f.inodes b = 1; exact .inl hk; exact .inr (links_kind hI hk)
 refine FJ.doneS (res1 rfl .z) (.c (.s .z) (.c .z (.c .z .n))) ?_
 first | (have hc := addC_7 (f := f) (a := a) (s := s) (b := b) (by omega); exact ⟨_, _, by rw [hc], by rw [addF_n (by rw [hc]; decide)]⟩) | (have hc := addC_4 (f := f) (a := a) (s := s) (b := b) (by omega) (by rintro ⟨⟨h1, h2⟩, h3⟩; first | omega | (simp_all; done) | (simp_all; omega)); exact ⟨_, _, by rw [hc], by rw [addF_n (by rw [hc]; decide)]⟩) | (have hc := addC_2 (f := f) (a := a) (s := s) (b := b) (by omega) ⟨⟨by omega, by omega⟩, by omega⟩ (by omega); exact ⟨_, _, by rw [hc], by rw [addF_n (by rw [hc]; decide)]⟩) | (have hc := addC_0 (f := f) (a := a) (s := s) (b := b) (by omega) ⟨⟨by omega, by omega⟩, by omega⟩ (by omega); exact ⟨_, _, by rw [hc], by rw [addF_d hc (by omega)]⟩) | (have hc := addC_0 (f := f) (a := a) (s := s) (b := b) (by omega) ⟨⟨by omega, by omega⟩, by omega⟩ (by omega); exact ⟨_, _, by rw [hc], by rw [addF_f hc (by omega)]⟩)
 refine FJ.seq (FJ.region (FJ.ql rfl (q_move rfl (.t (.s16 (.s4 (.s4 (.s4 .z)))))) (FJ.ql rfl (q_nilCheck rfl (.t .z)) (FJ.ql rfl (q_fieldAddr rfl (.t .z) (fun _ => fa_26_0 _ _)) ?_))))
 refine FJ.ql rfl (q_load rfl ag_24 (.t .z) (WS.row (.s4 (.s .z)) rfl)) (FJ.ql rfl (q_move rfl (.t (.s16 (.s16 (.s .z))))) ?_)
 refine FJ.turns (c := ownA kT_66 y6 [.int .i64 y6.kind, .int .i64 y6.links, .int .i64 y6.size, .slice Ao12 y6.blocks.length co12, .slice Ao13 y6.ents.length co13]) (.c .z (.c .z .n)) (fun w S h => kT_66_omk y6 h) ?_
 refine FJ.turns (c := ownA kSl_66 f.inodes [.slice (some ad14) f.inodes.length co1]) (.c (.s (.s (.s .z))) (.c .z (.c .z (.c .z .n)))) (own_unfocus0 (K := kT_66) hlfc5 hy6 hc7) ?_
 refine FJ.open (.c .z .n) own_raw ?_
 rintro fc19 hlfc19
 obtain ⟨y20, hy20⟩ := get_ex (xs := f.inodes) (j := Int.toNat a) (by first | omega | (simp only [takeF, withE_len, withL_len]; omega))
 obtain ⟨c21, hc21⟩ := get_ex (xs := fc19) (j := Int.toNat a) (by rw [hlfc19]; exact (List.getElem?_eq_some_iff.1 hy20).1)
 refine FJ.turn (.s .z) (seq_split hy20 hc21) ?_
 refine FJ.open (.c .z .n) kT_66_op ?_
 rintro ⟨v22, v23⟩ rfl
 refine FJ.know (WS.oform .z) ?_
 rintro ⟨Ao26, co26, rfl, hlo26, hmo26, hbo26⟩
 refine FJ.know (WS.oform (.s .z)) ?_
 rintro ⟨Ao27, co27, rfl, hlo27, hmo27, hbo27⟩
 have ky20 := kind_at (i := a) hy20 (by omega)
 have ny20 := ents_at (a := a) hy20 (by omega)
 have ly20 := links_at (a := a) hy20 (by omega)
 have hqy20 : (entsAt f.inodes a).length = y20.ents.length := by rw [ny20]
 refine FJ.ql rfl (q_indexAddr (j := Int.toNat a) rfl u_24 sz_66 (.t (.s .z)) (.t .z) (by omega) (by first | omega | (simp only [takeF, withE_len, withL_len]; omega))) ?_
 refine FJ.ql rfl (q_fieldAddr rfl (.t .z) (fun _ => fa_66_4 _ _)) (FJ.ql rfl (q_load rfl ag_64 (.t .z) (WS.raw (.s4 .z) hc21 rfl)) (FJ.ql rfl (q_len rfl u_64 (.t .z)) (FJ.ql rfl (q_eql rfl (.t .z) .c) (FJ.ql rfl (q_move rfl (.t .z)) ?_))))
 refine FJ.caseP .z (fun g29 => ?_) (fun g29 => ?_)
 refine FJ.skipl rfl rfl .z rfl rfl (by decide) rfl ?_
 refine FJ.skipl rfl rfl (.s .z) rfl rfl (by decide) rfl ?_
 refine FJ.skipl rfl rfl (.s (.s .z)) rfl rfl (by decide) rfl ?_
 refine FJ.skipl rfl rfl (.s (.s (.s .z))) rfl rfl (by decide) rfl ?_
 refine FJ.skipl rfl rfl (.s4 .z) rfl rfl (by decide) rfl ?_
 refine FJ.skipl rfl rfl (.s4 (.s .z)) rfl rfl (by decide) rfl ?_
 refine FJ.skipl rfl rfl (.s4 (.s (.s .z))) rfl rfl (by decide) rfl ?_
 refine FJ.skipl rfl rfl (.s4 (.s (.s (.s .z)))) rfl rfl (by decide) rfl ?_
 refine FJ.skipl rfl rfl (.s4 (.s4 .z)) rfl rfl (by decide) rfl ?_
 refine FJ.ql rfl (q_pickT rfl (.t (.s4 (.s4 (.s .z)))) .c) (FJ.ql rfl (q_assign rfl (.t .z)) (FJ.nil (FJ.then_ ?_)))
 refine FJ.condT (.t .z) ?_
 refine FJ.seq (FJ.region (FJ.er (.s16 (.s16 (.s16 (.s .z)))) (FJ.ql rfl (q_assign rfl .c) (FJ.nil ?_))))
 refine FJ.then_ (FJ.ret (FJ.inBR (FJ.thenR ?_)))
 refine FJ.turns (c := ownA kT_66 y20 [.int .i64 y20.kind, .int .i64 y20.links, .int .i64 y20.size, .slice Ao26 y20.blocks.length co26, .slice Ao27 y20.ents.length co27]) (.c .z (.c .z .n)) (fun w S h => kT_66_omk y20 h) ?_
 refine FJ.turns (c := ownA kSl_66 f.inodes [.slice (some ad14) f.inodes.length co1]) (.c (.s (.s (.s .z))) (.c .z (.c .z (.c .z .n)))) (own_unfocus0 (K := kT_66) hlfc19 hy20 hc21) ?_
 have hley6 : (entsAt f.inodes a).length = y6.ents.length ∨ True := .inr trivial
 try have hlny6 : (entsAt f.inodes a).length = y6.ents.length := by rw [ny6]
 have hloy6 := look_or (s := s) ht ny6
 have hley20 : (entsAt f.inodes a).length = y20.ents.length ∨ True := .inr trivial
 try have hlny20 : (entsAt f.inodes a).length = y20.ents.length := by rw [ny20]
 have hloy20 := look_or (s := s) ht ny20
 have hlk : kindAt f.inodes b = 1 ∨ linksAt f.inodes b = 0 := by by_cases hk : kindAt f.inodes b = 1; exact .inl hk; exact .inr (links_kind hI hk)
 refine FJ.doneS (res1 rfl .z) (.c (.s .z) (.c .z (.c .z .n))) ?_
 first | (have hc := addC_7 (f := f) (a := a) (s := s) (b := b) (by omega); exact ⟨_, _, by rw [hc], by rw [addF_n (by rw [hc]; decide)]⟩) | (have hc := addC_4 (f := f) (a := a) (s := s) (b := b) (by omega) (by rintro ⟨⟨h1, h2⟩, h3⟩; first | omega | (simp_all; done) | (simp_all; omega)); exact ⟨_, _, by rw [hc], by rw [addF_n (by rw [hc]; decide)]⟩) | (have hc := addC_2 (f := f) (a := a) (s := s) (b := b) (by omega) ⟨⟨by omega, by omega⟩, by omega⟩ (by omega); exact ⟨_, _, by rw [hc], by rw [addF_n (by rw [hc]; decide)]⟩) | (have hc := addC_0 (f := f) (a := a) (s := s) (b := b) (by omega) ⟨⟨by omega, by omega⟩, by omega⟩ (by omega); exact ⟨_, _, by rw [hc], by rw [addF_d hc (by omega)]⟩) | (have hc := addC_0 (f := f) (a := a) (s := s) (b := b) (by omega) ⟨⟨by omega, by omega⟩, by omega⟩ (by omega); exact ⟨_, _, by rw [hc], by rw [addF_f hc (by omega)]⟩)
 refine FJ.q (goes_listg rfl rfl .z) rfl (by decide) rfl (q_move rfl (.t (.s16 (.s16 (.s4 (.s (.s (.s .z)))))))) ?_
 refine FJ.q (goes_listg rfl rfl (.s .z)) rfl (by decide) rfl (q_nilCheck rfl (.t .z)) ?_
 refine FJ.q (goes_listg rfl rfl (.s (.s .z))) rfl (by decide) rfl (q_fieldAddr rfl (.t .z) (fun _ => fa_26_0 _ _)) ?_
 refine FJ.q (goes_listg rfl rfl (.s (.s (.s .z)))) rfl (by decide) rfl (q_load rfl ag_24 (.t .z) (WS.row (.s4 (.s .z)) rfl)) ?_
 refine FJ.q (goes_listg rfl rfl (.s4 .z)) rfl (by decide) rfl (q_move rfl (.t (.s16 (.s16 (.s4 (.s4 (.s4 (.s (.s .z))))))))) ?_
 refine FJ.turns (c := ownA kT_66 y20 [.int .i64 y20.kind, .int .i64 y20.links, .int .i64 y20.size, .slice Ao26 y20.blocks.length co26, .slice Ao27 y20.ents.length co27]) (.c .z (.c .z .n)) (fun w S h => kT_66_omk y20 h) ?_
 refine FJ.turns (c := ownA kSl_66 f.inodes [.slice (some ad14) f.inodes.length co1]) (.c (.s (.s (.s .z))) (.c .z (.c .z (.c .z .n)))) (own_unfocus0 (K := kT_66) hlfc19 hy20 hc21) ?_
 refine FJ.open (.c .z .n) own_raw ?_
 rintro fc32 hlfc32
 obtain ⟨y33, hy33⟩ := get_ex (xs := f.inodes) (j := Int.toNat b) (by first | omega | (simp only [takeF, withE_len, withL_len]; omega))
 obtain ⟨c34, hc34⟩ := get_ex (xs := fc32) (j := Int.toNat b) (by rw [hlfc32]; exact (List.getElem?_eq_some_iff.1 hy33).1)
 refine FJ.turn (.s .z) (seq_split hy33 hc34) ?_
 refine FJ.open (.c .z .n) kT_66_op ?_
 rintro ⟨v35, v36⟩ rfl
 refine FJ.know (WS.oform .z) ?_
 rintro ⟨Ao39, co39, rfl, hlo39, hmo39, hbo39⟩
 refine FJ.know (WS.oform (.s .z)) ?_
 rintro ⟨Ao40, co40, rfl, hlo40, hmo40, hbo40⟩
 have ky33 := kind_at (i := b) hy33 (by omega)
 have ny33 := ents_at (a := b) hy33 (by omega)
 have ly33 := links_at (a := b) hy33 (by omega)
 have hqy33 : (entsAt f.inodes b).length = y33.ents.length := by rw [ny33]
 refine FJ.q (goes_listg rfl rfl (.s4 (.s .z))) rfl (by decide) rfl (q_indexAddr (j := Int.toNat b) rfl u_24 sz_66 (.t (.s .z)) (.t .z) (by omega) (by first | omega | (simp only [takeF, withE_len, withL_len]; omega))) ?_
 refine FJ.q (goes_listg rfl rfl (.s4 (.s (.s .z)))) rfl (by decide) rfl (q_fieldAddr rfl (.t .z) (fun _ => fa_66_1 _ _)) ?_
 refine FJ.q (goes_listg rfl rfl (.s4 (.s (.s (.s .z))))) rfl (by decide) rfl (q_load rfl ag_2 (.t .z) (WS.raw (.s4 .z) hc34 rfl)) ?_
 refine FJ.q (goes_listg rfl rfl (.s4 (.s4 .z))) rfl (by decide) rfl (q_eql rfl (.t .z) .c) ?_
 refine FJ.ql rfl (q_pickF rfl (.t (.s4 (.s4 (.s .z)))) (.t .z)) (FJ.ql rfl (q_assign rfl (.t .z)) (FJ.nil (FJ.then_ ?_)))
 refine FJ.condP (.t .z) (fun b42 => ?_) (fun b42 => ?_)
 refine FJ.seq (FJ.region (FJ.er (.s16 (.s16 (.s16 (.s .z)))) (FJ.ql rfl (q_assign rfl .c) (FJ.nil ?_))))
 refine FJ.then_ (FJ.ret (FJ.inBR (FJ.thenR ?_)))
 refine FJ.turns (c := ownA kT_66 y33 [.int .i64 y33.kind, .int .i64 y33.links, .int .i64 y33.size, .slice Ao39 y33.blocks.length co39, .slice Ao40 y33.ents.length co40]) (.c .z (.c .z .n)) (fun w S h => kT_66_omk y33 h) ?_
 refine FJ.turns (c := ownA kSl_66 f.inodes [.slice (some ad14) f.inodes.length co1]) (.c (.s (.s (.s .z))) (.c .z (.c .z (.c .z .n)))) (own_unfocus0 (K := kT_66) hlfc32 hy33 hc34) ?_
 have hley6 : (entsAt f.inodes a).length = y6.ents.length ∨ True := .inr trivial
 try have hlny6 : (entsAt f.inodes a).length = y6.ents.length := by rw [ny6]
 have hloy6 := look_or (s := s) ht ny6
 have hley20 : (entsAt f.inodes a).length = y20.ents.length ∨ True := .inr trivial
 try have hlny20 : (entsAt f.inodes a).length = y20.ents.length := by rw [ny20]
 have hloy20 := look_or (s := s) ht ny20
 have hley33 : (entsAt f.inodes a).length = y33.ents.length ∨ True := .inr trivial
 try have hlny33 : (entsAt f.inodes a).length = y33.ents.length := by rw [ny33]
 have hloy33 := look_or (s := s) ht ny33
 have hlk : kindAt f.inodes b = 1 ∨ linksAt f.inodes b = 0 := by by_cases hk : kindAt f.inodes b = 1; exact .inl hk; exact .inr (links_kind hI hk)
 refine FJ.doneS (res1 rfl .z) (.c (.s .z) (.c .z (.c .z .n))) ?_
 first | (have hc := addC_7 (f := f) (a := a) (s := s) (b := b) (by omega); exact ⟨_, _, by rw [hc], by rw [addF_n (by rw [hc]; decide)]⟩) | (have hc := addC_4 (f := f) (a := a) (s := s) (b := b) (by omega) (by rintro ⟨⟨h1, h2⟩, h3⟩; first | omega | (simp_all; done) | (simp_all; omega)); exact ⟨_, _, by rw [hc], by rw [addF_n (by rw [hc]; decide)]⟩) | (have hc := addC_2 (f := f) (a := a) (s := s) (b := b) (by omega) ⟨⟨by omega, by omega⟩, by omega⟩ (by omega); exact ⟨_, _, by rw [hc], by rw [addF_n (by rw [hc]; decide)]⟩) | (have hc := addC_0 (f := f) (a := a) (s := s) (b := b) (by omega) ⟨⟨by omega, by omega⟩, by omega⟩ (by omega); exact ⟨_, _, by rw [hc], by rw [addF_d hc (by omega)]⟩) | (have hc := addC_0 (f := f) (a := a) (s := s) (b := b) (by omega) ⟨⟨by omega, by omega⟩, by omega⟩ (by omega); exact ⟨_, _, by rw [hc], by rw [addF_f hc (by omega)]⟩)
 refine FJ.skip (FJ.inBN (FJ.then_ (FJ.seq (FJ.region ?_))))
 refine FJ.ql rfl (q_move rfl (.t (.s16 (.s16 (.s16 (.s (.s .z))))))) (FJ.ql rfl (q_move rfl (.t (.s16 (.s16 (.s16 (.s4 .z)))))) (FJ.ql rfl (q_move rfl (.t (.s16 (.s16 (.s16 (.s4 (.s (.s .z)))))))) (FJ.ql rfl (q_move rfl (.t (.s16 (.s16 (.s16 (.s4 (.s4 .z))))))) ?_)))
 refine FJ.turns (c := ownA kT_66 y33 [.int .i64 y33.kind, .int .i64 y33.links, .int .i64 y33.size, .slice Ao39 y33.blocks.length co39, .slice Ao40 y33.ents.length co40]) (.c .z (.c .z .n)) (fun w S h => kT_66_omk y33 h) ?_
 refine FJ.turns (c := ownA kSl_66 f.inodes [.slice (some ad14) f.inodes.length co1]) (.c (.s (.s (.s .z))) (.c .z (.c .z (.c .z .n)))) (own_unfocus0 (K := kT_66) hlfc32 hy33 hc34) ?_
 refine FJ.call (goes_list rfl) rfl (by decide) rfl (c_call rfl Tryz.func117 rfl rfl (args4 (.t (.s (.s (.s .z)))) (.t (.s (.s .z))) (.t (.s .z)) (.t .z))) (.c (.s .z) (.c .z (.c .z .n))) (fun w1 S1 hs tr => c_117 (f := f) _ _ (by first | assumption | omega) _ hs (by first | assumption | (constructor <;> omega)) (by omega)) ?_
 rintro _ _ ⟨v45, v47, rfl, rfl⟩
 refine FJ.cat (.c (.c (.c .n))) ?_
 refine FJ.ceq (x' := (takeF f a (putE (entsAt (f).inodes a) ⟨s, b⟩)).inodes) (.s .z) rfl ?_
 refine FJ.know (WS.oform .z) ?_
 rintro ⟨Ao49, co49, rfl, hlo49, hmo49, hbo49⟩
 refine FJ.ceq (x' := (takeF f a (putE (entsAt (f).inodes a) ⟨s, b⟩)).data) (.s (.s .z)) rfl ?_
 refine FJ.know (WS.oform .z) ?_
 rintro ⟨Ao50, co50, rfl, hlo50, hmo50, hbo50⟩
 refine FJ.nil (FJ.then_ (FJ.seq (FJ.seq (FJ.region ?_))))
 refine FJ.ql rfl (q_move rfl (.t (.s16 (.s16 (.s16 (.s4 (.s (.s (.s .z))))))))) (FJ.ql rfl (q_nilCheck rfl (.t .z)) (FJ.ql rfl (q_fieldAddr rfl (.t .z) (fun _ => fa_26_0 _ _)) (FJ.ql rfl (q_load rfl ag_24 (.t .z) (WS.row (.s (.s .z)) rfl)) (FJ.ql rfl (q_move rfl (.t (.s16 (.s16 (.s16 (.s4 (.s4 (.s4 (.s (.s .z)))))))))) ?_))))
 refine FJ.open (.c (.s .z) .n) own_raw ?_
 rintro fc51 hlfc51
 obtain ⟨y52, hy52⟩ := get_ex (xs := (takeF f a (putE (entsAt (f).inodes a) ⟨s, b⟩)).inodes) (j := Int.toNat b) (by first | omega | (simp only [takeF, withE_len, withL_len]; omega))
 obtain ⟨c53, hc53⟩ := get_ex (xs := fc51) (j := Int.toNat b) (by rw [hlfc51]; exact (List.getElem?_eq_some_iff.1 hy52).1)
 refine FJ.turn (.s .z) (seq_split hy52 hc53) ?_
 refine FJ.open (.c .z .n) kT_66_op ?_
 rintro ⟨v54, v55⟩ rfl
 refine FJ.know (WS.oform .z) ?_
 rintro ⟨Ao58, co58, rfl, hlo58, hmo58, hbo58⟩
 refine FJ.know (WS.oform (.s .z)) ?_
 rintro ⟨Ao59, co59, rfl, hlo59, hmo59, hbo59⟩
 have hTl : ((takeF f a (putE (entsAt (f).inodes a) ⟨s, b⟩)).inodes).length = f.inodes.length := withE_len
 have hTk : kindAt ((takeF f a (putE (entsAt (f).inodes a) ⟨s, b⟩)).inodes) b = kindAt f.inodes b := withE_kind
 have hTn : linksAt ((takeF f a (putE (entsAt (f).inodes a) ⟨s, b⟩)).inodes) b = linksAt f.inodes b := withE_links
 have hLb : (0 ≤ linksAt f.inodes b ∧ linksAt f.inodes b ≤ 60) ∨ kindAt f.inodes b ≠ 1 := by by_cases hk : kindAt f.inodes b = 1; exact .inl (by have := file_links hI hk; omega); exact .inr hk
 have kT := kind_at (i := b) hy52 (by omega)
 have lT := links_at (a := b) hy52 (by omega)
 refine FJ.know (WS.oad (.s4 .z) (by omega)) ?_
 rintro ⟨ad60, rfl⟩
 refine FJ.ql rfl (q_indexAddr (j := Int.toNat b) rfl u_24 sz_66 (.t (.s .z)) (.t .z) (by omega) (by first | omega | (simp only [takeF, withE_len, withL_len]; omega))) ?_
 refine FJ.ql rfl (q_fieldAddr rfl (.t .z) (fun _ => fa_66_0 _ _)) (FJ.ql rfl (q_load rfl ag_2 (.t .z) (WS.raw (.s4 .z) hc53 rfl)) (FJ.ql rfl (q_eql rfl (.t .z) .c) (FJ.nil (FJ.then_ ?_))))
 refine FJ.condP (.t .z) (fun b62 => ?_) (fun b62 => ?_)
 refine FJ.region (FJ.ql rfl (q_move rfl (.t (.s16 (.s16 (.s16 (.s16 .z)))))) (FJ.ql rfl (q_nilCheck rfl (.t .z)) (FJ.ql rfl (q_fieldAddr rfl (.t .z) (fun _ => fa_26_0 _ _)) (FJ.ql rfl (q_load rfl ag_24 (.t .z) (WS.row (.s4 (.s (.s .z))) rfl)) ?_))))
 refine FJ.ql rfl (q_move rfl (.t (.s16 (.s16 (.s16 (.s16 (.s4 (.s (.s (.s .z)))))))))) ?_
 refine FJ.ql rfl (q_indexAddr (j := Int.toNat b) rfl u_24 sz_66 (.t (.s .z)) (.t .z) (by omega) (by first | omega | (simp only [takeF, withE_len, withL_len]; omega))) ?_
 refine FJ.ql rfl (q_fieldAddr rfl (.t .z) (fun _ => fa_66_1 _ _)) (FJ.ql rfl (q_load rfl ag_2 (.t .z) (WS.raw (.s4 .z) hc53 rfl)) ?_)
 refine FJ.ql rfl (q_add (c := y52.links + 1) rfl (.t .z) .c (wr (by omega) (by omega) (by omega))) ?_
 refine FJ.ql rfl (q_indexAddr (j := Int.toNat b) rfl u_24 sz_66 (.t (.s4 (.s .z))) (.t (.s4 .z)) (by omega) (by first | omega | (simp only [takeF, withE_len, withL_len]; omega))) ?_
 refine FJ.ql rfl (q_fieldAddr rfl (.t .z) (fun _ => fa_66_1 _ _)) ?_
 refine FJ.es (goes_list rfl) rfl (es_raw (j := Int.toNat b) (off := 1) (cs := [.int .i64 (y52.links + 1)]) rfl sz_2 (.t .z) (add_add _ _ _) (.t (.s (.s .z))) rfl (ones rfl) (.s4 .z) hc53 (Nat.le_of_ble_eq_true rfl)) ?_
 refine FJ.ceq (x' := List.set fc51 (Int.toNat b) [.int .i64 y52.kind, .int .i64 (y52.links + 1), .int .i64 y52.size, .slice Ao58 y52.blocks.length co58, .slice Ao59 y52.ents.length co59]) .z rfl ?_
 refine FJ.nil (FJ.then_ (FJ.seq (FJ.region (FJ.er (.s16 (.s16 (.s16 (.s16 (.s4 (.s4 (.s (.s .z)))))))) ?_))))
 refine FJ.ql rfl (q_assign rfl .c) (FJ.nil (FJ.then_ (FJ.ret ?_)))
 refine FJ.turns (c := ownA kT_66 (⟨y52.kind, y52.links + 1, y52.size, y52.blocks, y52.ents⟩ : DInode) [.int .i64 y52.kind, .int .i64 (y52.links + 1), .int .i64 y52.size, .slice Ao58 y52.blocks.length co58, .slice Ao59 y52.ents.length co59]) (.c (.s .z) (.c (.s .z) .n)) (fun w S h => kT_66_omk (⟨y52.kind, y52.links + 1, y52.size, y52.blocks, y52.ents⟩ : DInode) h) ?_
 refine FJ.turns (c := ownA kSl_66 (List.set ((takeF f a (putE (entsAt (f).inodes a) ⟨s, b⟩)).inodes) (Int.toNat b) (⟨y52.kind, y52.links + 1, y52.size, y52.blocks, y52.ents⟩ : DInode)) [.slice (some ad60) ((takeF f a (putE (entsAt (f).inodes a) ⟨s, b⟩)).inodes).length co49]) (.c (.s .z) (.c .z (.c .z (.c .z .n)))) (own_unfocus (K := kT_66) hlfc51 (List.getElem?_eq_some_iff.1 hy52).1 rfl) ?_
 have hley6 : (entsAt f.inodes a).length = y6.ents.length ∨ True := .inr trivial
 try have hlny6 : (entsAt f.inodes a).length = y6.ents.length := by rw [ny6]
 have hloy6 := look_or (s := s) ht ny6
 have hley20 : (entsAt f.inodes a).length = y20.ents.length ∨ True := .inr trivial
 try have hlny20 : (entsAt f.inodes a).length = y20.ents.length := by rw [ny20]
 have hloy20 := look_or (s := s) ht ny20
 have hley33 : (entsAt f.inodes a).length = y33.ents.length ∨ True := .inr trivial
 try have hlny33 : (entsAt f.inodes a).length = y33.ents.length := by rw [ny33]
 have hloy33 := look_or (s := s) ht ny33
 have hlk : kindAt f.inodes b = 1 ∨ linksAt f.inodes b = 0 := by by_cases hk : kindAt f.inodes b = 1; exact .inl hk; exact .inr (links_kind hI hk)
 have he66 : List.set ((takeF f a (putE (entsAt (f).inodes a) ⟨s, b⟩)).inodes) (Int.toNat b) (⟨y52.kind, y52.links + 1, y52.size, y52.blocks, y52.ents⟩ : DInode) = withL (withE f.inodes a (putE (entsAt f.inodes a) ⟨s, b⟩)) b (linksAt f.inodes b + 1) := (by rw [← hTn, lT]; exact withL_at hy52 (by omega))
 refine FJ.chEq .z (congrArg (fun z_ => (ownA kSl_66 (z_) [.slice (some ad60) ((takeF f a (putE (entsAt (f).inodes a) ⟨s, b⟩)).inodes).length co49] : Asn)) he66) ?_
 refine FJ.doneS (res1 rfl .z) (.c (.s (.s .z)) (.c .z (.c .z .n))) ?_
 first | (have hc := addC_7 (f := f) (a := a) (s := s) (b := b) (by omega); exact ⟨_, _, by rw [hc], by rw [addF_n (by rw [hc]; decide)]⟩) | (have hc := addC_4 (f := f) (a := a) (s := s) (b := b) (by omega) (by rintro ⟨⟨h1, h2⟩, h3⟩; first | omega | (simp_all; done) | (simp_all; omega)); exact ⟨_, _, by rw [hc], by rw [addF_n (by rw [hc]; decide)]⟩) | (have hc := addC_2 (f := f) (a := a) (s := s) (b := b) (by omega) ⟨⟨by omega, by omega⟩, by omega⟩ (by omega); exact ⟨_, _, by rw [hc], by rw [addF_n (by rw [hc]; decide)]⟩) | (have hc := addC_0 (f := f) (a := a) (s := s) (b := b) (by omega) ⟨⟨by omega, by omega⟩, by omega⟩ (by omega); exact ⟨_, _, by rw [hc], by rw [addF_d hc (by omega)]⟩) | (have hc := addC_0 (f := f) (a := a) (s := s) (b := b) (by omega) ⟨⟨by omega, by omega⟩, by omega⟩ (by omega); exact ⟨_, _, by rw [hc], by rw [addF_f hc (by omega)]⟩)
 refine FJ.skip (FJ.then_ (FJ.seq (FJ.region (FJ.er (.s16 (.s16 (.s16 (.s4 (.s4 (.s4 (.s (.s (.s .z))))))))) ?_))))
 refine FJ.ql rfl (q_assign rfl .c) (FJ.nil (FJ.then_ (FJ.ret ?_)))
 refine FJ.turns (c := ownA kT_66 y52 [.int .i64 y52.kind, .int .i64 y52.links, .int .i64 y52.size, .slice Ao58 y52.blocks.length co58, .slice Ao59 y52.ents.length co59]) (.c .z (.c .z .n)) (fun w S h => kT_66_omk y52 h) ?_
 refine FJ.turns (c := ownA kSl_66 ((takeF f a (putE (entsAt (f).inodes a) ⟨s, b⟩)).inodes) [.slice (some ad60) ((takeF f a (putE (entsAt (f).inodes a) ⟨s, b⟩)).inodes).length co49]) (.c (.s (.s (.s .z))) (.c .z (.c .z (.c .z .n)))) (own_unfocus0 (K := kT_66) hlfc51 hy52 hc53) ?_
 have hley6 : (entsAt f.inodes a).length = y6.ents.length ∨ True := .inr trivial
 try have hlny6 : (entsAt f.inodes a).length = y6.ents.length := by rw [ny6]
 have hloy6 := look_or (s := s) ht ny6
 have hley20 : (entsAt f.inodes a).length = y20.ents.length ∨ True := .inr trivial
 try have hlny20 : (entsAt f.inodes a).length = y20.ents.length := by rw [ny20]
 have hloy20 := look_or (s := s) ht ny20
 have hley33 : (entsAt f.inodes a).length = y33.ents.length ∨ True := .inr trivial
 try have hlny33 : (entsAt f.inodes a).length = y33.ents.length := by rw [ny33]
 have hloy33 := look_or (s := s) ht ny33
 have hlk : kindAt f.inodes b = 1 ∨ linksAt f.inodes b = 0 := by by_cases hk : kindAt f.inodes b = 1; exact .inl hk; exact .inr (links_kind hI hk)
 refine FJ.doneS (res1 rfl .z) (.c (.s (.s .z)) (.c .z (.c .z .n))) ?_
 first | (have hc := addC_7 (f := f) (a := a) (s := s) (b := b) (by omega); exact ⟨_, _, by rw [hc], by rw [addF_n (by rw [hc]; decide)]⟩) | (have hc := addC_4 (f := f) (a := a) (s := s) (b := b) (by omega) (by rintro ⟨⟨h1, h2⟩, h3⟩; first | omega | (simp_all; done) | (simp_all; omega)); exact ⟨_, _, by rw [hc], by rw [addF_n (by rw [hc]; decide)]⟩) | (have hc := addC_2 (f := f) (a := a) (s := s) (b := b) (by omega) ⟨⟨by omega, by omega⟩, by omega⟩ (by omega); exact ⟨_, _, by rw [hc], by rw [addF_n (by rw [hc]; decide)]⟩) | (have hc := addC_0 (f := f) (a := a) (s := s) (b := b) (by omega) ⟨⟨by omega, by omega⟩, by omega⟩ (by omega); exact ⟨_, _, by rw [hc], by rw [addF_d hc (by omega)]⟩) | (have hc := addC_0 (f := f) (a := a) (s := s) (b := b) (by omega) ⟨⟨by omega, by omega⟩, by omega⟩ (by omega); exact ⟨_, _, by rw [hc], by rw [addF_f hc (by omega)]⟩)

set_option maxHeartbeats 1000000 in
set_option maxRecDepth 20000 in
theorem c_77 {w0 : World} {S0 : Bs} {f : DFs} {g0 e0 s0 : Nat} {post0 : List Value} {v0_0 : Value} {v0_1 : Value} (a : Int) (s : ByteArray) (hz2 : s.size ≤ 140737488351232) (b : Int) (hs : Star [rowA g0 e0 s0 1 (v0_0 :: v0_1 :: post0), ownA kSl_66 f.inodes [v0_0], ownA kSl_39 f.data [v0_1]] w0 S0) (ht : treeFault f = 0) (hp : placeIn f.inodes.length a) (h6 : (entsAt f.inodes a).length ≤ 6) :
    Calls Tryz.prog 77 #[.pointer (some ⟨g0, 0, none⟩), .int .i64 a, .string s, .int .i64 b] w0 (TriPost w0 S0 (fun r l => ∃ v0 v1, r = .int .i64 (addC f a s b) ∧ l = [rowA g0 e0 s0 1 (v0 :: v1 :: post0), ownA kSl_66 (addF f a s b).inodes [v0], ownA kSl_39 (addF f a s b).data [v1]])) := by
 obtain ⟨hp1, hp2⟩ := hp
 have hI := treeI ht
 refine FJ.enter (N := 100) Tryz.func77 rfl rfl (by simp) [(0, .pointer (some ⟨g0, 0, none⟩)), (1, .int .i64 a), (2, .string s), (3, .int .i64 b)] (by simp) hs ?_
 refine FJ.know (WS.oform (.s .z)) ?_
 rintro ⟨Ao1, co1, rfl, hlo1, hmo1, hbo1⟩
 refine FJ.know (WS.oform (.s (.s .z))) ?_
 rintro ⟨Ao2, co2, rfl, hlo2, hmo2, hbo2⟩
 refine FJ.seq (FJ.region (FJ.ql rfl (q_assign rfl .c) (FJ.nil (FJ.then_ ?_))))
 refine FJ.seq (FJ.seq (FJ.region (FJ.ql rfl (q_move rfl (.t (.s .z))) (FJ.ql rfl (q_nilCheck rfl (.t .z)) ?_))))
 refine FJ.ql rfl (q_fieldAddr rfl (.t .z) (fun _ => fa_26_0 _ _)) (FJ.ql rfl (q_load rfl ag_24 (.t .z) (WS.row .z rfl)) (FJ.ql rfl (q_move rfl (.t (.s4 (.s (.s .z))))) ?_))
 refine FJ.open (.c (.s .z) .n) own_raw ?_
 rintro fc3 hlfc3
 obtain ⟨y4, hy4⟩ := get_ex (xs := f.inodes) (j := Int.toNat a) (by first | omega | (simp only [takeF, withE_len, withL_len]; omega))
 obtain ⟨c5, hc5⟩ := get_ex (xs := fc3) (j := Int.toNat a) (by rw [hlfc3]; exact (List.getElem?_eq_some_iff.1 hy4).1)
 refine FJ.turn (.s .z) (seq_split hy4 hc5) ?_
 refine FJ.open (.c .z .n) kT_66_op ?_
 rintro ⟨v6, v7⟩ rfl
 refine FJ.know (WS.oform .z) ?_
 rintro ⟨Ao10, co10, rfl, hlo10, hmo10, hbo10⟩
 refine FJ.know (WS.oform (.s .z)) ?_
 rintro ⟨Ao11, co11, rfl, hlo11, hmo11, hbo11⟩
 have ky4 := kind_at (i := a) hy4 (by omega)
 have ny4 := ents_at (a := a) hy4 (by omega)
 have ly4 := links_at (a := a) hy4 (by omega)
 have hqy4 : (entsAt f.inodes a).length = y4.ents.length := by rw [ny4]
 refine FJ.know (WS.oad (.s4 .z) (by omega)) ?_
 rintro ⟨ad12, rfl⟩
 refine FJ.ql rfl (q_indexAddr (j := Int.toNat a) rfl u_24 sz_66 (.t (.s .z)) (.t .z) (by omega) (by first | omega | (simp only [takeF, withE_len, withL_len]; omega))) ?_
 refine FJ.ql rfl (q_fieldAddr rfl (.t .z) (fun _ => fa_66_4 _ _)) (FJ.ql rfl (q_load rfl ag_64 (.t .z) (WS.raw (.s4 .z) hc5 rfl)) (FJ.ql rfl (q_move rfl (.t (.s4 (.s4 (.s (.s (.s .z))))))) ?_))
 refine FJ.call (goes_list rfl) rfl (by decide) rfl (c_call rfl Tryz.func66 rfl rfl (args2 (.t (.s .z)) (.t .z))) .n (fun w1 S1 hs tr => c_66 (tr.own (.s .z)) _ (by first | assumption | omega)) ?_
 rintro _ _ ⟨rfl, rfl⟩
 refine FJ.cat .n ?_
 refine FJ.ql rfl (q_geq rfl (.t .z) .c) (FJ.nil (FJ.then_ ?_))
 refine FJ.condP (.t .z) (fun b14 => ?_) (fun b14 => ?_)
 refine FJ.seq (FJ.region (FJ.er (.s4 (.s4 (.s (.s (.s .z))))) (FJ.ql rfl (q_assign rfl .c) (FJ.nil ?_))))
 refine FJ.then_ (FJ.ret (FJ.thenR ?_))
 refine FJ.turns (c := ownA kT_66 y4 [.int .i64 y4.kind, .int .i64 y4.links, .int .i64 y4.size, .slice Ao10 y4.blocks.length co10, .slice Ao11 y4.ents.length co11]) (.c .z (.c .z .n)) (fun w S h => kT_66_omk y4 h) ?_
 refine FJ.turns (c := ownA kSl_66 f.inodes [.slice (some ad12) f.inodes.length co1]) (.c (.s (.s (.s .z))) (.c .z (.c .z (.c .z .n)))) (own_unfocus0 (K := kT_66) hlfc3 hy4 hc5) ?_
 have hley4 : (entsAt f.inodes a).length = y4.ents.length ∨ True := .inr trivial
 try have hlny4 : (entsAt f.inodes a).length = y4.ents.length := by rw [ny4]
 have hloy4 := look_or (s := s) ht ny4
 have hlk : kindAt f.inodes b = 1 ∨ linksAt f.inodes b = 0 := by by_cases hk : kindAt f.inodes b = 1; exact .inl hk; exact .inr (links_kind hI hk)
 refine FJ.doneS (res1 rfl .z) (.c (.s .z) (.c .z (.c .z .n))) ?_
 first | (have hc := addC_7 (f := f) (a := a) (s := s) (b := b) (by omega); exact ⟨_, _, by rw [hc], by rw [addF_n (by rw [hc]; decide)]⟩) | (have hc := addC_4 (f := f) (a := a) (s := s) (b := b) (by omega) (by rintro ⟨⟨h1, h2⟩, h3⟩; first | omega | (simp_all; done) | (simp_all; omega)); exact ⟨_, _, by rw [hc], by rw [addF_n (by rw [hc]; decide)]⟩) | (have hc := addC_2 (f := f) (a := a) (s := s) (b := b) (by omega) ⟨⟨by omega, by omega⟩, by omega⟩ (by omega); exact ⟨_, _, by rw [hc], by rw [addF_n (by rw [hc]; decide)]⟩) | (have hc := addC_0 (f := f) (a := a) (s := s) (b := b) (by omega) ⟨⟨by omega, by omega⟩, by omega⟩ (by omega); exact ⟨_, _, by rw [hc], by rw [addF_d hc (by omega)]⟩) | (have hc := addC_0 (f := f) (a := a) (s := s) (b := b) (by omega) ⟨⟨by omega, by omega⟩, by omega⟩ (by omega); exact ⟨_, _, by rw [hc], by rw [addF_f hc (by omega)]⟩)
 refine FJ.skip (FJ.then_ (FJ.seq (FJ.seq (FJ.region ?_))))
 refine FJ.ql rfl (q_move rfl (.t (.s4 (.s4 (.s4 .z))))) (FJ.ql rfl (q_move rfl (.t (.s16 .z))) ?_)
 refine FJ.turns (c := ownA kT_66 y4 [.int .i64 y4.kind, .int .i64 y4.links, .int .i64 y4.size, .slice Ao10 y4.blocks.length co10, .slice Ao11 y4.ents.length co11]) (.c .z (.c .z .n)) (fun w S h => kT_66_omk y4 h) ?_
 refine FJ.turns (c := ownA kSl_66 f.inodes [.slice (some ad12) f.inodes.length co1]) (.c (.s (.s (.s .z))) (.c .z (.c .z (.c .z .n)))) (own_unfocus0 (K := kT_66) hlfc3 hy4 hc5) ?_
 refine FJ.call (goes_list rfl) rfl (by decide) rfl (c_call rfl Tryz.func54 rfl rfl (args2 (.t (.s .z)) (.t .z))) .n (fun w1 S1 hs tr => c_54 (tr.ptrpre (.s .z) (kT_26_mk f (tr.own .z) (tr.own (.s (.s .z)))) (pre_at (cs := [.slice (some ad12) f.inodes.length co1, .slice Ao2 f.data.length co2]) (k := 2) rfl rfl)) _) ?_
 rintro _ _ ⟨rfl, rfl⟩
 refine FJ.cat .n ?_
 refine FJ.ql rfl (q_not rfl (.t .z)) (FJ.ql rfl (q_move rfl (.t .z)) ?_)
 refine FJ.caseN .z (fun g17 => ?_) (fun g17 => ?_)
 refine FJ.skipl rfl rfl .z rfl rfl (by decide) rfl ?_
 refine FJ.skipl rfl rfl (.s .z) rfl rfl (by decide) rfl ?_
 refine FJ.skipl rfl rfl (.s (.s .z)) rfl rfl (by decide) rfl ?_
 refine FJ.skipl rfl rfl (.s (.s (.s .z))) rfl rfl (by decide) rfl ?_
 refine FJ.skipl rfl rfl (.s4 .z) rfl rfl (by decide) rfl ?_
 refine FJ.skipl rfl rfl (.s4 (.s .z)) rfl rfl (by decide) rfl ?_
 refine FJ.skipl rfl rfl (.s4 (.s (.s .z))) rfl rfl (by decide) rfl ?_
 refine FJ.skipl rfl rfl (.s4 (.s (.s (.s .z)))) rfl rfl (by decide) rfl ?_
 refine FJ.skipl rfl rfl (.s4 (.s4 .z)) rfl rfl (by decide) rfl ?_
 refine FJ.ql rfl (q_pickT rfl (.t (.s4 (.s4 (.s .z)))) .c) (FJ.nil (FJ.then_ ?_))
 refine FJ.condT (.t .z) ?_
 refine FJ.seq (FJ.region (FJ.er (.s16 (.s4 (.s4 (.s (.s .z))))) (FJ.ql rfl (q_assign rfl .c) (FJ.nil ?_))))
 refine FJ.then_ (FJ.ret (FJ.thenR ?_))
 have hley4 : (entsAt f.inodes a).length = y4.ents.length ∨ True := .inr trivial
 try have hlny4 : (entsAt f.inodes a).length = y4.ents.length := by rw [ny4]
 have hloy4 := look_or (s := s) ht ny4
 have hlk : kindAt f.inodes b = 1 ∨ linksAt f.inodes b = 0 := by by_cases hk : kindAt f.inodes b = 1; exact .inl hk; exact .inr (links_kind hI hk)
 refine FJ.doneS (res1 rfl .z) (.c (.s .z) (.c .z (.c .z .n))) ?_
 first | (have hc := addC_7 (f := f) (a := a) (s := s) (b := b) (by omega); exact ⟨_, _, by rw [hc], by rw [addF_n (by rw [hc]; decide)]⟩) | (have hc := addC_4 (f := f) (a := a) (s := s) (b := b) (by omega) (by rintro ⟨⟨h1, h2⟩, h3⟩; first | omega | (simp_all; done) | (simp_all; omega)); exact ⟨_, _, by rw [hc], by rw [addF_n (by rw [hc]; decide)]⟩) | (have hc := addC_2 (f := f) (a := a) (s := s) (b := b) (by omega) ⟨⟨by omega, by omega⟩, by omega⟩ (by omega); exact ⟨_, _, by rw [hc], by rw [addF_n (by rw [hc]; decide)]⟩) | (have hc := addC_0 (f := f) (a := a) (s := s) (b := b) (by omega) ⟨⟨by omega, by omega⟩, by omega⟩ (by omega); exact ⟨_, _, by rw [hc], by rw [addF_d hc (by omega)]⟩) | (have hc := addC_0 (f := f) (a := a) (s := s) (b := b) (by omega) ⟨⟨by omega, by omega⟩, by omega⟩ (by omega); exact ⟨_, _, by rw [hc], by rw [addF_f hc (by omega)]⟩)
 refine FJ.q (goes_listg rfl rfl .z) rfl (by decide) rfl (q_move rfl (.t (.s16 (.s .z)))) ?_
 refine FJ.q (goes_listg rfl rfl (.s .z)) rfl (by decide) rfl (q_nilCheck rfl (.t .z)) ?_
 refine FJ.q (goes_listg rfl rfl (.s (.s .z))) rfl (by decide) rfl (q_fieldAddr rfl (.t .z) (fun _ => fa_26_0 _ _)) ?_
 refine FJ.q (goes_listg rfl rfl (.s (.s (.s .z)))) rfl (by decide) rfl (q_load rfl ag_24 (.t .z) (WS.row (.s .z) rfl)) ?_
 refine FJ.q (goes_listg rfl rfl (.s4 .z)) rfl (by decide) rfl (q_move rfl (.t (.s16 (.s4 (.s4 .z))))) ?_
 refine FJ.open (.c .z .n) own_raw ?_
 rintro fc18 hlfc18
 obtain ⟨y19, hy19⟩ := get_ex (xs := f.inodes) (j := Int.toNat b) (by first | omega | (simp only [takeF, withE_len, withL_len]; omega))
 obtain ⟨c20, hc20⟩ := get_ex (xs := fc18) (j := Int.toNat b) (by rw [hlfc18]; exact (List.getElem?_eq_some_iff.1 hy19).1)
 refine FJ.turn (.s .z) (seq_split hy19 hc20) ?_
 refine FJ.open (.c .z .n) kT_66_op ?_
 rintro ⟨v21, v22⟩ rfl
 refine FJ.know (WS.oform .z) ?_
 rintro ⟨Ao25, co25, rfl, hlo25, hmo25, hbo25⟩
 refine FJ.know (WS.oform (.s .z)) ?_
 rintro ⟨Ao26, co26, rfl, hlo26, hmo26, hbo26⟩
 have ky19 := kind_at (i := b) hy19 (by omega)
 have ny19 := ents_at (a := b) hy19 (by omega)
 have ly19 := links_at (a := b) hy19 (by omega)
 have hqy19 : (entsAt f.inodes b).length = y19.ents.length := by rw [ny19]
 refine FJ.q (goes_listg rfl rfl (.s4 (.s .z))) rfl (by decide) rfl (q_indexAddr (j := Int.toNat b) rfl u_24 sz_66 (.t (.s .z)) (.t .z) (by omega) (by first | omega | (simp only [takeF, withE_len, withL_len]; omega))) ?_
 refine FJ.q (goes_listg rfl rfl (.s4 (.s (.s .z)))) rfl (by decide) rfl (q_fieldAddr rfl (.t .z) (fun _ => fa_66_0 _ _)) ?_
 refine FJ.q (goes_listg rfl rfl (.s4 (.s (.s (.s .z))))) rfl (by decide) rfl (q_load rfl ag_2 (.t .z) (WS.raw (.s4 .z) hc20 rfl)) ?_
 refine FJ.q (goes_listg rfl rfl (.s4 (.s4 .z))) rfl (by decide) rfl (q_eql rfl (.t .z) .c) ?_
 refine FJ.ql rfl (q_pickF rfl (.t (.s4 (.s4 (.s .z)))) (.t .z)) (FJ.nil (FJ.then_ ?_))
 refine FJ.condP (.t .z) (fun b28 => ?_) (fun b28 => ?_)
 refine FJ.seq (FJ.region (FJ.er (.s16 (.s4 (.s4 (.s (.s .z))))) (FJ.ql rfl (q_assign rfl .c) (FJ.nil ?_))))
 refine FJ.then_ (FJ.ret (FJ.thenR ?_))
 refine FJ.turns (c := ownA kT_66 y19 [.int .i64 y19.kind, .int .i64 y19.links, .int .i64 y19.size, .slice Ao25 y19.blocks.length co25, .slice Ao26 y19.ents.length co26]) (.c .z (.c .z .n)) (fun w S h => kT_66_omk y19 h) ?_
 refine FJ.turns (c := ownA kSl_66 f.inodes [.slice (some ad12) f.inodes.length co1]) (.c (.s (.s (.s .z))) (.c .z (.c .z (.c .z .n)))) (own_unfocus0 (K := kT_66) hlfc18 hy19 hc20) ?_
 have hley4 : (entsAt f.inodes a).length = y4.ents.length ∨ True := .inr trivial
 try have hlny4 : (entsAt f.inodes a).length = y4.ents.length := by rw [ny4]
 have hloy4 := look_or (s := s) ht ny4
 have hley19 : (entsAt f.inodes a).length = y19.ents.length ∨ True := .inr trivial
 try have hlny19 : (entsAt f.inodes a).length = y19.ents.length := by rw [ny19]
 have hloy19 := look_or (s := s) ht ny19
 have hlk : kindAt f.inodes b = 1 ∨ linksAt f.inodes b = 0 := by by_cases hk : kindAt f.inodes b = 1; exact .inl hk; exact .inr (links_kind hI hk)
 refine FJ.doneS (res1 rfl .z) (.c (.s .z) (.c .z (.c .z .n))) ?_
 first | (have hc := addC_7 (f := f) (a := a) (s := s) (b := b) (by omega); exact ⟨_, _, by rw [hc], by rw [addF_n (by rw [hc]; decide)]⟩) | (have hc := addC_4 (f := f) (a := a) (s := s) (b := b) (by omega) (by rintro ⟨⟨h1, h2⟩, h3⟩; first | omega | (simp_all; done) | (simp_all; omega)); exact ⟨_, _, by rw [hc], by rw [addF_n (by rw [hc]; decide)]⟩) | (have hc := addC_2 (f := f) (a := a) (s := s) (b := b) (by omega) ⟨⟨by omega, by omega⟩, by omega⟩ (by omega); exact ⟨_, _, by rw [hc], by rw [addF_n (by rw [hc]; decide)]⟩) | (have hc := addC_0 (f := f) (a := a) (s := s) (b := b) (by omega) ⟨⟨by omega, by omega⟩, by omega⟩ (by omega); exact ⟨_, _, by rw [hc], by rw [addF_d hc (by omega)]⟩) | (have hc := addC_0 (f := f) (a := a) (s := s) (b := b) (by omega) ⟨⟨by omega, by omega⟩, by omega⟩ (by omega); exact ⟨_, _, by rw [hc], by rw [addF_f hc (by omega)]⟩)
 refine FJ.skip (FJ.then_ (FJ.seq (FJ.region (FJ.ql rfl (q_move rfl (.t (.s16 (.s4 (.s4 (.s (.s (.s .z)))))))) ?_))))
 refine FJ.ql rfl (q_nilCheck rfl (.t .z)) (FJ.ql rfl (q_fieldAddr rfl (.t .z) (fun _ => fa_26_0 _ _)) (FJ.ql rfl (q_load rfl ag_24 (.t .z) (WS.row (.s4 (.s .z)) rfl)) (FJ.ql rfl (q_move rfl (.t (.s16 (.s16 (.s (.s .z)))))) ?_)))
 refine FJ.ql rfl (q_indexAddr (j := Int.toNat b) rfl u_24 sz_66 (.t (.s .z)) (.t .z) (by omega) (by first | omega | (simp only [takeF, withE_len, withL_len]; omega))) ?_
 refine FJ.ql rfl (q_fieldAddr rfl (.t .z) (fun _ => fa_66_0 _ _)) (FJ.ql rfl (q_load rfl ag_2 (.t .z) (WS.raw (.s4 .z) hc20 rfl)) (FJ.ql rfl (q_eql rfl (.t .z) .c) (FJ.ql rfl (q_assign rfl (.t .z)) (FJ.nil ?_))))
 refine FJ.then_ (FJ.seq (FJ.seq (FJ.region (FJ.ql rfl (q_move rfl (.t (.s16 (.s16 (.s4 (.s .z)))))) ?_))))
 refine FJ.ql rfl (q_nilCheck rfl (.t .z)) (FJ.ql rfl (q_fieldAddr rfl (.t .z) (fun _ => fa_26_0 _ _)) (FJ.ql rfl (q_load rfl ag_24 (.t .z) (WS.row (.s4 (.s .z)) rfl)) (FJ.ql rfl (q_move rfl (.t (.s16 (.s16 (.s4 (.s4 (.s (.s .z)))))))) ?_)))
 refine FJ.turns (c := ownA kT_66 y19 [.int .i64 y19.kind, .int .i64 y19.links, .int .i64 y19.size, .slice Ao25 y19.blocks.length co25, .slice Ao26 y19.ents.length co26]) (.c .z (.c .z .n)) (fun w S h => kT_66_omk y19 h) ?_
 refine FJ.turns (c := ownA kSl_66 f.inodes [.slice (some ad12) f.inodes.length co1]) (.c (.s (.s (.s .z))) (.c .z (.c .z (.c .z .n)))) (own_unfocus0 (K := kT_66) hlfc18 hy19 hc20) ?_
 refine FJ.open (.c .z .n) own_raw ?_
 rintro fc32 hlfc32
 obtain ⟨y33, hy33⟩ := get_ex (xs := f.inodes) (j := Int.toNat a) (by first | omega | (simp only [takeF, withE_len, withL_len]; omega))
 obtain ⟨c34, hc34⟩ := get_ex (xs := fc32) (j := Int.toNat a) (by rw [hlfc32]; exact (List.getElem?_eq_some_iff.1 hy33).1)
 refine FJ.turn (.s .z) (seq_split hy33 hc34) ?_
 refine FJ.open (.c .z .n) kT_66_op ?_
 rintro ⟨v35, v36⟩ rfl
 refine FJ.know (WS.oform .z) ?_
 rintro ⟨Ao39, co39, rfl, hlo39, hmo39, hbo39⟩
 refine FJ.know (WS.oform (.s .z)) ?_
 rintro ⟨Ao40, co40, rfl, hlo40, hmo40, hbo40⟩
 have ky33 := kind_at (i := a) hy33 (by omega)
 have ny33 := ents_at (a := a) hy33 (by omega)
 have ly33 := links_at (a := a) hy33 (by omega)
 have hqy33 : (entsAt f.inodes a).length = y33.ents.length := by rw [ny33]
 refine FJ.ql rfl (q_indexAddr (j := Int.toNat a) rfl u_24 sz_66 (.t (.s .z)) (.t .z) (by omega) (by first | omega | (simp only [takeF, withE_len, withL_len]; omega))) ?_
 refine FJ.ql rfl (q_fieldAddr rfl (.t .z) (fun _ => fa_66_4 _ _)) (FJ.ql rfl (q_load rfl ag_64 (.t .z) (WS.raw (.s4 .z) hc34 rfl)) (FJ.ql rfl (q_len rfl u_64 (.t .z)) (FJ.ql rfl (q_geq rfl (.t .z) .c) (FJ.ql rfl (q_move rfl (.t .z)) ?_))))
 refine FJ.caseP .z (fun g42 => ?_) (fun g42 => ?_)
 refine FJ.skipl rfl rfl .z rfl rfl (by decide) rfl ?_
 refine FJ.skipl rfl rfl (.s .z) rfl rfl (by decide) rfl ?_
 refine FJ.skipl rfl rfl .z rfl rfl (by decide) rfl ?_
 refine FJ.skipl rfl rfl (.s .z) rfl rfl (by decide) rfl ?_
 refine FJ.skipl rfl rfl (.s (.s .z)) rfl rfl (by decide) rfl ?_
 refine FJ.skipl rfl rfl (.s (.s (.s .z))) rfl rfl (by decide) rfl ?_
 refine FJ.skipl rfl rfl (.s4 .z) rfl rfl (by decide) rfl ?_
 refine FJ.skipl rfl rfl (.s4 (.s .z)) rfl rfl (by decide) rfl ?_
 refine FJ.skipl rfl rfl (.s4 (.s (.s .z))) rfl rfl (by decide) rfl ?_
 refine FJ.skipl rfl rfl (.s4 (.s (.s (.s .z)))) rfl rfl (by decide) rfl ?_
 refine FJ.skipl rfl rfl (.s4 (.s4 .z)) rfl rfl (by decide) rfl ?_
 refine FJ.skipl rfl rfl (.s4 (.s4 (.s (.s (.s .z))))) rfl rfl (by decide) rfl ?_
 refine FJ.ql rfl (q_pickT rfl (.t (.s4 (.s4 (.s4 .z)))) .c) (FJ.nil (FJ.then_ ?_))
 refine FJ.condT (.t .z) ?_
 refine FJ.seq (FJ.region (FJ.er (.s16 (.s16 (.s16 (.s4 (.s4 (.s4 .z)))))) (FJ.ql rfl (q_assign rfl .c) (FJ.nil ?_))))
 refine FJ.then_ (FJ.ret (FJ.thenR ?_))
 refine FJ.turns (c := ownA kT_66 y33 [.int .i64 y33.kind, .int .i64 y33.links, .int .i64 y33.size, .slice Ao39 y33.blocks.length co39, .slice Ao40 y33.ents.length co40]) (.c .z (.c .z .n)) (fun w S h => kT_66_omk y33 h) ?_
 refine FJ.turns (c := ownA kSl_66 f.inodes [.slice (some ad12) f.inodes.length co1]) (.c (.s (.s (.s .z))) (.c .z (.c .z (.c .z .n)))) (own_unfocus0 (K := kT_66) hlfc32 hy33 hc34) ?_
 have hley4 : (entsAt f.inodes a).length = y4.ents.length ∨ True := .inr trivial
 try have hlny4 : (entsAt f.inodes a).length = y4.ents.length := by rw [ny4]
 have hloy4 := look_or (s := s) ht ny4
 have hley19 : (entsAt f.inodes a).length = y19.ents.length ∨ True := .inr trivial
 try have hlny19 : (entsAt f.inodes a).length = y19.ents.length := by rw [ny19]
 have hloy19 := look_or (s := s) ht ny19
 have hley33 : (entsAt f.inodes a).length = y33.ents.length ∨ True := .inr trivial
 try have hlny33 : (entsAt f.inodes a).length = y33.ents.length := by rw [ny33]
 have hloy33 := look_or (s := s) ht ny33
 have hlk : kindAt f.inodes b = 1 ∨ linksAt f.inodes b = 0 := by by_cases hk : kindAt f.inodes b = 1; exact .inl hk; exact .inr (links_kind hI hk)
 refine FJ.doneS (res1 rfl .z) (.c (.s .z) (.c .z (.c .z .n))) ?_
 first | (have hc := addC_7 (f := f) (a := a) (s := s) (b := b) (by omega); exact ⟨_, _, by rw [hc], by rw [addF_n (by rw [hc]; decide)]⟩) | (have hc := addC_4 (f := f) (a := a) (s := s) (b := b) (by omega) (by rintro ⟨⟨h1, h2⟩, h3⟩; first | omega | (simp_all; done) | (simp_all; omega)); exact ⟨_, _, by rw [hc], by rw [addF_n (by rw [hc]; decide)]⟩) | (have hc := addC_2 (f := f) (a := a) (s := s) (b := b) (by omega) ⟨⟨by omega, by omega⟩, by omega⟩ (by omega); exact ⟨_, _, by rw [hc], by rw [addF_n (by rw [hc]; decide)]⟩) | (have hc := addC_0 (f := f) (a := a) (s := s) (b := b) (by omega) ⟨⟨by omega, by omega⟩, by omega⟩ (by omega); exact ⟨_, _, by rw [hc], by rw [addF_d hc (by omega)]⟩) | (have hc := addC_0 (f := f) (a := a) (s := s) (b := b) (by omega) ⟨⟨by omega, by omega⟩, by omega⟩ (by omega); exact ⟨_, _, by rw [hc], by rw [addF_f hc (by omega)]⟩)
 refine FJ.q (goes_listg rfl rfl .z) rfl (by decide) rfl (q_move rfl (.t (.s4 (.s4 (.s (.s (.s .z))))))) ?_
 refine FJ.q (goes_listg rfl rfl (.s .z)) rfl (by decide) rfl (q_move rfl (.t .z)) ?_
 refine FJ.caseP .z (fun g44 => ?_) (fun g44 => ?_)
 refine FJ.q (goes_listg rfl rfl .z) rfl (by decide) rfl (q_move rfl (.t (.s16 (.s16 (.s16 (.s (.s .z))))))) ?_
 refine FJ.q (goes_listg rfl rfl (.s .z)) rfl (by decide) rfl (q_nilCheck rfl (.t .z)) ?_
 refine FJ.q (goes_listg rfl rfl (.s (.s .z))) rfl (by decide) rfl (q_fieldAddr rfl (.t .z) (fun _ => fa_26_0 _ _)) ?_
 refine FJ.q (goes_listg rfl rfl (.s (.s (.s .z)))) rfl (by decide) rfl (q_load rfl ag_24 (.t .z) (WS.row (.s4 (.s .z)) rfl)) ?_
 refine FJ.q (goes_listg rfl rfl (.s4 .z)) rfl (by decide) rfl (q_move rfl (.t (.s16 (.s16 (.s16 (.s4 (.s4 (.s .z)))))))) ?_
 refine FJ.turns (c := ownA kT_66 y33 [.int .i64 y33.kind, .int .i64 y33.links, .int .i64 y33.size, .slice Ao39 y33.blocks.length co39, .slice Ao40 y33.ents.length co40]) (.c .z (.c .z .n)) (fun w S h => kT_66_omk y33 h) ?_
 refine FJ.turns (c := ownA kSl_66 f.inodes [.slice (some ad12) f.inodes.length co1]) (.c (.s (.s (.s .z))) (.c .z (.c .z (.c .z .n)))) (own_unfocus0 (K := kT_66) hlfc32 hy33 hc34) ?_
 refine FJ.open (.c .z .n) own_raw ?_
 rintro fc46 hlfc46
 obtain ⟨y47, hy47⟩ := get_ex (xs := f.inodes) (j := Int.toNat b) (by first | omega | (simp only [takeF, withE_len, withL_len]; omega))
 obtain ⟨c48, hc48⟩ := get_ex (xs := fc46) (j := Int.toNat b) (by rw [hlfc46]; exact (List.getElem?_eq_some_iff.1 hy47).1)
 refine FJ.turn (.s .z) (seq_split hy47 hc48) ?_
 refine FJ.open (.c .z .n) kT_66_op ?_
 rintro ⟨v49, v50⟩ rfl
 refine FJ.know (WS.oform .z) ?_
 rintro ⟨Ao53, co53, rfl, hlo53, hmo53, hbo53⟩
 refine FJ.know (WS.oform (.s .z)) ?_
 rintro ⟨Ao54, co54, rfl, hlo54, hmo54, hbo54⟩
 have ky47 := kind_at (i := b) hy47 (by omega)
 have ny47 := ents_at (a := b) hy47 (by omega)
 have ly47 := links_at (a := b) hy47 (by omega)
 have hqy47 : (entsAt f.inodes b).length = y47.ents.length := by rw [ny47]
 refine FJ.q (goes_listg rfl rfl (.s4 (.s .z))) rfl (by decide) rfl (q_indexAddr (j := Int.toNat b) rfl u_24 sz_66 (.t (.s .z)) (.t .z) (by omega) (by first | omega | (simp only [takeF, withE_len, withL_len]; omega))) ?_
 refine FJ.q (goes_listg rfl rfl (.s4 (.s (.s .z)))) rfl (by decide) rfl (q_fieldAddr rfl (.t .z) (fun _ => fa_66_1 _ _)) ?_
 refine FJ.q (goes_listg rfl rfl (.s4 (.s (.s (.s .z))))) rfl (by decide) rfl (q_load rfl ag_2 (.t .z) (WS.raw (.s4 .z) hc48 rfl)) ?_
 refine FJ.q (goes_listg rfl rfl (.s4 (.s4 .z))) rfl (by decide) rfl (q_geq rfl (.t .z) .c) ?_
 refine FJ.q (goes_listg rfl rfl (.s4 (.s4 (.s (.s (.s .z)))))) rfl (by decide) rfl (q_pickT rfl (.t (.s4 (.s4 (.s .z)))) (.t .z)) ?_
 refine FJ.ql rfl (q_pickF rfl (.t (.s4 (.s4 (.s4 .z)))) (.t .z)) (FJ.nil (FJ.then_ ?_))
 refine FJ.condP (.t .z) (fun b56 => ?_) (fun b56 => ?_)
 refine FJ.seq (FJ.region (FJ.er (.s16 (.s16 (.s16 (.s4 (.s4 (.s4 .z)))))) (FJ.ql rfl (q_assign rfl .c) (FJ.nil ?_))))
 refine FJ.then_ (FJ.ret (FJ.thenR ?_))
 refine FJ.turns (c := ownA kT_66 y47 [.int .i64 y47.kind, .int .i64 y47.links, .int .i64 y47.size, .slice Ao53 y47.blocks.length co53, .slice Ao54 y47.ents.length co54]) (.c .z (.c .z .n)) (fun w S h => kT_66_omk y47 h) ?_
 refine FJ.turns (c := ownA kSl_66 f.inodes [.slice (some ad12) f.inodes.length co1]) (.c (.s (.s (.s .z))) (.c .z (.c .z (.c .z .n)))) (own_unfocus0 (K := kT_66) hlfc46 hy47 hc48) ?_
 have hley4 : (entsAt f.inodes a).length = y4.ents.length ∨ True := .inr trivial
 try have hlny4 : (entsAt f.inodes a).length = y4.ents.length := by rw [ny4]
 have hloy4 := look_or (s := s) ht ny4
 have hley19 : (entsAt f.inodes a).length = y19.ents.length ∨ True := .inr trivial
 try have hlny19 : (entsAt f.inodes a).length = y19.ents.length := by rw [ny19]
 have hloy19 := look_or (s := s) ht ny19
 have hley33 : (entsAt f.inodes a).length = y33.ents.length ∨ True := .inr trivial
 try have hlny33 : (entsAt f.inodes a).length = y33.ents.length := by rw [ny33]
 have hloy33 := look_or (s := s) ht ny33
 have hley47 : (entsAt f.inodes a).length = y47.ents.length ∨ True := .inr trivial
 try have hlny47 : (entsAt f.inodes a).length = y47.ents.length := by rw [ny47]
 have hloy47 := look_or (s := s) ht ny47
 have hlk : kindAt f.inodes b = 1 ∨ linksAt f.inodes b = 0 := by by_cases hk : kindAt f.inodes b = 1; exact .inl hk; exact .inr (links_kind hI hk)
 refine FJ.doneS (res1 rfl .z) (.c (.s .z) (.c .z (.c .z .n))) ?_
 first | (have hc := addC_7 (f := f) (a := a) (s := s) (b := b) (by omega); exact ⟨_, _, by rw [hc], by rw [addF_n (by rw [hc]; decide)]⟩) | (have hc := addC_4 (f := f) (a := a) (s := s) (b := b) (by omega) (by rintro ⟨⟨h1, h2⟩, h3⟩; first | omega | (simp_all; done) | (simp_all; omega)); exact ⟨_, _, by rw [hc], by rw [addF_n (by rw [hc]; decide)]⟩) | (have hc := addC_2 (f := f) (a := a) (s := s) (b := b) (by omega) ⟨⟨by omega, by omega⟩, by omega⟩ (by omega); exact ⟨_, _, by rw [hc], by rw [addF_n (by rw [hc]; decide)]⟩) | (have hc := addC_0 (f := f) (a := a) (s := s) (b := b) (by omega) ⟨⟨by omega, by omega⟩, by omega⟩ (by omega); exact ⟨_, _, by rw [hc], by rw [addF_d hc (by omega)]⟩) | (have hc := addC_0 (f := f) (a := a) (s := s) (b := b) (by omega) ⟨⟨by omega, by omega⟩, by omega⟩ (by omega); exact ⟨_, _, by rw [hc], by rw [addF_f hc (by omega)]⟩)
 refine FJ.skip (FJ.then_ (FJ.seq ?_))
 refine FJ.turns (c := ownA kT_66 y47 [.int .i64 y47.kind, .int .i64 y47.links, .int .i64 y47.size, .slice Ao53 y47.blocks.length co53, .slice Ao54 y47.ents.length co54]) (.c .z (.c .z .n)) (fun w S h => kT_66_omk y47 h) ?_
 refine FJ.turns (c := ownA kSl_66 f.inodes [.slice (some ad12) f.inodes.length co1]) (.c (.s (.s (.s .z))) (.c .z (.c .z (.c .z .n)))) (own_unfocus0 (K := kT_66) hlfc46 hy47 hc48) ?_
 refine FJ.open (.c .z .n) own_raw ?_
 rintro fc59 hlfc59
 obtain ⟨y60, hy60⟩ := get_ex (xs := f.inodes) (j := Int.toNat a) (by first | omega | (simp only [takeF, withE_len, withL_len]; omega))
 obtain ⟨c61, hc61⟩ := get_ex (xs := fc59) (j := Int.toNat a) (by rw [hlfc59]; exact (List.getElem?_eq_some_iff.1 hy60).1)
 refine FJ.turn (.s .z) (seq_split hy60 hc61) ?_
 refine FJ.open (.c .z .n) kT_66_op ?_
 rintro ⟨v62, v63⟩ rfl
 refine FJ.know (WS.oform .z) ?_
 rintro ⟨Ao66, co66, rfl, hlo66, hmo66, hbo66⟩
 refine FJ.know (WS.oform (.s .z)) ?_
 rintro ⟨Ao67, co67, rfl, hlo67, hmo67, hbo67⟩
 have ky60 := kind_at (i := a) hy60 (by omega)
 have ny60 := ents_at (a := a) hy60 (by omega)
 have ly60 := links_at (a := a) hy60 (by omega)
 have hqy60 : (entsAt f.inodes a).length = y60.ents.length := by rw [ny60]
 refine FJ.sel (.c .z (.c .z (.c (.s4 .z) (.c .z (.c .z (.c .z (.c .z .n))))))) ?_
 refine FJ.draw [seqC kT_66 (List.take (Int.toNat a) f.inodes) (List.take (Int.toNat a) fc59), seqC kT_66 (List.drop (Int.toNat a + 1) f.inodes) (List.drop (Int.toNat a + 1) fc59), ownA (kslice 66 72 (kraw kT_66.sz kT_66.pos)) fc59 [.slice (some ad12) f.inodes.length co1], rowA g0 e0 s0 1 ((.slice (some ad12) f.inodes.length co1) :: (.slice Ao2 f.data.length co2) :: post0)] 19 (by kernel_rfl) ?_
 refine FJ.sch [(0, true), (1, true), (2, true), (3, true), (4, true), (5, true), (6, true), (7, true), (8, true), (9, true), (10, true), (11, true), (12, true), (13, true), (14, true), (15, true), (16, false), (17, false), (18, true), (19, false)] 0 #[true, true, true, true, true, true, true, true, true, true, true, true, true, true, true, true, true, true, true, true] (by rfl) (by kernel_rfl) ?_
 refine FJ.dq rfl rfl rfl (by decide) rfl (.s (.s (.s .z))) (q_move rfl (.t (.s16 (.s16 (.s16 (.s4 (.s4 (.s4 (.s .z))))))))) (FJ.dq rfl rfl rfl (by decide) rfl (.s (.s (.s .z))) (q_nilCheck rfl (.t .z)) (FJ.dq rfl rfl rfl (by decide) rfl (.s (.s (.s .z))) (q_fieldAddr rfl (.t .z) (fun _ => fa_26_0 _ _)) (FJ.dq rfl rfl rfl (by decide) rfl (.s (.s (.s .z))) (q_load rfl ag_24 (.t .z) (WS.row (.s (.s (.s .z))) rfl)) (FJ.dq rfl rfl rfl (by decide) rfl (.s (.s (.s .z))) (q_move rfl (.t (.s16 (.s16 (.s16 (.s16 (.s (.s .z)))))))) ?_))))
 refine FJ.dq rfl rfl rfl (by decide) rfl (.s (.s (.s .z))) (q_move rfl (.t (.s16 (.s16 (.s16 (.s16 (.s (.s .z)))))))) (FJ.dq rfl rfl rfl (by decide) rfl (.s (.s (.s .z))) (q_nilCheck rfl (.t .z)) (FJ.dq rfl rfl rfl (by decide) rfl (.s (.s (.s .z))) (q_fieldAddr rfl (.t .z) (fun _ => fa_26_0 _ _)) (FJ.dq rfl rfl rfl (by decide) rfl (.s (.s (.s .z))) (q_load rfl ag_24 (.t .z) (WS.row (.s (.s (.s .z))) rfl)) (FJ.dq rfl rfl rfl (by decide) rfl (.s (.s (.s .z))) (q_move rfl (.t (.s16 (.s16 (.s16 (.s16 (.s4 (.s (.s (.s .z)))))))))) ?_))))
 refine FJ.dq rfl rfl rfl (by decide) rfl (.s (.s (.s .z))) (q_indexAddr (j := Int.toNat a) rfl u_24 sz_66 (.t (.s .z)) (.t .z) (by omega) (by first | omega | (simp only [takeF, withE_len, withL_len]; omega))) ?_
 refine FJ.dq rfl rfl rfl (by decide) rfl (.s (.s (.s .z))) (q_fieldAddr rfl (.t .z) (fun _ => fa_66_4 _ _)) (FJ.dq rfl rfl rfl (by decide) rfl (.s (.s (.s .z))) (q_load rfl ag_64 (.t .z) (WS.raw (.s (.s .z)) hc61 rfl)) (FJ.dq rfl rfl rfl (by decide) rfl (.s (.s (.s .z))) (q_move rfl (.t (.s16 (.s16 (.s16 (.s16 (.s4 (.s4 (.s4 .z))))))))) (FJ.dq rfl rfl rfl (by decide) rfl (.s (.s (.s .z))) (q_move rfl (.t (.s16 (.s16 (.s16 (.s16 (.s4 (.s4 (.s4 (.s (.s .z))))))))))) ?_)))
 refine FJ.dq rfl rfl rfl (by decide) rfl (.s (.s (.s .z))) (q_build (ps := [(0, .string s), (1, .int .i64 b)]) (cs := [.string s, .int .i64 b]) rfl bl_68 (by intro act hact; simp only [List.map_toArray, List.map_cons, List.map_nil, (show Val _ _ _ from (.t (.s .z))) act hact, (show Val _ _ _ from (.t .z)) act hact]) rfl) ?_
 refine FJ.call (goes_sch rfl rfl) rfl (by decide) rfl (c_call rfl Tryz.func116 rfl rfl (args2 (.t (.s (.s (.s .z)))) (.t .z))) .n (fun w1 S1 hs tr => c_116 (tr.own (.s .z)) (kT_68_mk (⟨s, b⟩ : DEnt) (by assumption)) (by omega)) ?_
 rintro _ _ rfl
 refine FJ.cat (.c .n) ?_
 refine FJ.know (WS.oform .z) ?_
 rintro ⟨Ao70, co70, rfl, hlo70, hmo70, hbo70⟩
 refine FJ.sk (.s4 .z) ?_
 refine FJ.q (goes_sch rfl rfl) rfl (by decide) rfl (q_indexAddr (j := Int.toNat a) rfl u_24 sz_66 (.t (.s4 (.s4 (.s4 (.s .z))))) (.t (.s4 (.s4 (.s4 .z)))) (by omega) (by first | omega | (simp only [takeF, withE_len, withL_len]; omega))) ?_
 refine FJ.sk (.s4 .z) ?_
 refine FJ.dq rfl rfl rfl (by decide) rfl (.s4 .z) (q_fieldAddr rfl (.t .z) (fun _ => fa_66_4 _ _)) ?_
 refine FJ.es (goes_sch rfl rfl) rfl (es_raw (j := Int.toNat a) (off := 4) (cs := [.slice Ao70 (putE y60.ents (⟨s, b⟩ : DEnt)).length co70]) rfl sz_64 (.t .z) (add_add _ _ _) (.t (.s (.s .z))) rfl (ones rfl) (.s4 (.s (.s .z))) hc61 (Nat.le_of_ble_eq_true rfl)) ?_
 refine FJ.ceq (x' := List.set fc59 (Int.toNat a) [.int .i64 y60.kind, .int .i64 y60.links, .int .i64 y60.size, .slice Ao66 y60.blocks.length co66, .slice Ao70 (putE y60.ents (⟨s, b⟩ : DEnt)).length co70]) .z rfl ?_
 refine FJ.sl rfl ?_
 refine FJ.schN ?_
 refine FJ.drawN (by kernel_rfl) ?_
 refine FJ.then_ (FJ.seq (FJ.seq (FJ.region (FJ.ql rfl (q_move rfl (.t (.s16 (.s16 (.s4 (.s4 (.s (.s (.s .z))))))))) ?_))))
 refine FJ.nil (FJ.then_ ?_)
 refine FJ.condP (.t .z) (fun b72 => ?_) (fun b72 => ?_)
 refine FJ.region (FJ.ql rfl (q_move rfl (.t (.s16 (.s16 (.s16 (.s16 (.s16 (.s .z)))))))) (FJ.ql rfl (q_nilCheck rfl (.t .z)) (FJ.ql rfl (q_fieldAddr rfl (.t .z) (fun _ => fa_26_0 _ _)) (FJ.ql rfl (q_load rfl ag_24 (.t .z) (WS.row (.s4 (.s (.s (.s .z)))) rfl)) ?_))))
 refine FJ.ql rfl (q_move rfl (.t (.s16 (.s16 (.s16 (.s16 (.s16 (.s4 (.s4 .z))))))))) ?_
 refine FJ.turns (c := ownA kT_66 (⟨y60.kind, y60.links, y60.size, y60.blocks, putE y60.ents (⟨s, b⟩ : DEnt)⟩ : DInode) [.int .i64 y60.kind, .int .i64 y60.links, .int .i64 y60.size, .slice Ao66 y60.blocks.length co66, .slice Ao70 (putE y60.ents (⟨s, b⟩ : DEnt)).length co70]) (.c (.s (.s .z)) (.c (.s .z) .n)) (fun w S h => kT_66_omk (⟨y60.kind, y60.links, y60.size, y60.blocks, putE y60.ents (⟨s, b⟩ : DEnt)⟩ : DInode) h) ?_
 refine FJ.turns (c := ownA kSl_66 (List.set f.inodes (Int.toNat a) (⟨y60.kind, y60.links, y60.size, y60.blocks, putE y60.ents (⟨s, b⟩ : DEnt)⟩ : DInode)) [.slice (some ad12) f.inodes.length co1]) (.c (.s .z) (.c .z (.c (.s (.s .z)) (.c (.s (.s .z)) .n)))) (own_unfocus (K := kT_66) hlfc59 (List.getElem?_eq_some_iff.1 hy60).1 rfl) ?_
 have he74 : List.set f.inodes (Int.toNat a) (⟨y60.kind, y60.links, y60.size, y60.blocks, putE y60.ents (⟨s, b⟩ : DEnt)⟩ : DInode) = withE f.inodes a (putE (entsAt f.inodes a) ⟨s, b⟩) := (by rw [ny60]; exact withE_at hy60 (by omega))
 refine FJ.chEq .z (congrArg (fun z_ => (ownA kSl_66 (z_) [.slice (some ad12) f.inodes.length co1] : Asn)) he74) ?_
 refine FJ.open (.c .z .n) own_raw ?_
 rintro fc75 hlfc75
 obtain ⟨y76, hy76⟩ := get_ex (xs := withE f.inodes a (putE (entsAt f.inodes a) ⟨s, b⟩)) (j := Int.toNat b) (by first | omega | (simp only [takeF, withE_len, withL_len]; omega))
 obtain ⟨c77, hc77⟩ := get_ex (xs := fc75) (j := Int.toNat b) (by rw [hlfc75]; exact (List.getElem?_eq_some_iff.1 hy76).1)
 refine FJ.turn (.s .z) (seq_split hy76 hc77) ?_
 refine FJ.open (.c .z .n) kT_66_op ?_
 rintro ⟨v78, v79⟩ rfl
 refine FJ.know (WS.oform .z) ?_
 rintro ⟨Ao82, co82, rfl, hlo82, hmo82, hbo82⟩
 refine FJ.know (WS.oform (.s .z)) ?_
 rintro ⟨Ao83, co83, rfl, hlo83, hmo83, hbo83⟩
 have hTl : (withE f.inodes a (putE (entsAt f.inodes a) ⟨s, b⟩)).length = f.inodes.length := withE_len
 have hTk : kindAt (withE f.inodes a (putE (entsAt f.inodes a) ⟨s, b⟩)) b = kindAt f.inodes b := withE_kind
 have hTn : linksAt (withE f.inodes a (putE (entsAt f.inodes a) ⟨s, b⟩)) b = linksAt f.inodes b := withE_links
 have hLb : (0 ≤ linksAt f.inodes b ∧ linksAt f.inodes b ≤ 60) ∨ kindAt f.inodes b ≠ 1 := by by_cases hk : kindAt f.inodes b = 1; exact .inl (by have := file_links hI hk; omega); exact .inr hk
 have kT := kind_at (i := b) hy76 (by omega)
 have lT := links_at (a := b) hy76 (by omega)
 refine FJ.ql rfl (q_indexAddr (j := Int.toNat b) rfl u_24 sz_66 (.t (.s .z)) (.t .z) (by omega) (by first | omega | (simp only [takeF, withE_len, withL_len]; omega))) ?_
 refine FJ.ql rfl (q_fieldAddr rfl (.t .z) (fun _ => fa_66_1 _ _)) (FJ.ql rfl (q_load rfl ag_2 (.t .z) (WS.raw (.s4 .z) hc77 rfl)) ?_)
 refine FJ.ql rfl (q_add (c := y76.links + 1) rfl (.t .z) .c (wr (by omega) (by omega) (by omega))) ?_
 refine FJ.ql rfl (q_indexAddr (j := Int.toNat b) rfl u_24 sz_66 (.t (.s4 (.s .z))) (.t (.s4 .z)) (by omega) (by first | omega | (simp only [takeF, withE_len, withL_len]; omega))) ?_
 refine FJ.ql rfl (q_fieldAddr rfl (.t .z) (fun _ => fa_66_1 _ _)) ?_
 refine FJ.es (goes_list rfl) rfl (es_raw (j := Int.toNat b) (off := 1) (cs := [.int .i64 (y76.links + 1)]) rfl sz_2 (.t .z) (add_add _ _ _) (.t (.s (.s .z))) rfl (ones rfl) (.s4 .z) hc77 (Nat.le_of_ble_eq_true rfl)) ?_
 refine FJ.ceq (x' := List.set fc75 (Int.toNat b) [.int .i64 y76.kind, .int .i64 (y76.links + 1), .int .i64 y76.size, .slice Ao82 y76.blocks.length co82, .slice Ao83 y76.ents.length co83]) .z rfl ?_
 refine FJ.nil (FJ.then_ (FJ.seq (FJ.region (FJ.er (.s16 (.s16 (.s16 (.s16 (.s16 (.s4 (.s4 (.s (.s (.s .z)))))))))) ?_))))
 refine FJ.ql rfl (q_assign rfl .c) (FJ.nil (FJ.then_ (FJ.ret ?_)))
 refine FJ.turns (c := ownA kT_66 (⟨y76.kind, y76.links + 1, y76.size, y76.blocks, y76.ents⟩ : DInode) [.int .i64 y76.kind, .int .i64 (y76.links + 1), .int .i64 y76.size, .slice Ao82 y76.blocks.length co82, .slice Ao83 y76.ents.length co83]) (.c (.s .z) (.c (.s .z) .n)) (fun w S h => kT_66_omk (⟨y76.kind, y76.links + 1, y76.size, y76.blocks, y76.ents⟩ : DInode) h) ?_
 refine FJ.turns (c := ownA kSl_66 (List.set (withE f.inodes a (putE (entsAt f.inodes a) ⟨s, b⟩)) (Int.toNat b) (⟨y76.kind, y76.links + 1, y76.size, y76.blocks, y76.ents⟩ : DInode)) [.slice (some ad12) f.inodes.length co1]) (.c (.s .z) (.c .z (.c .z (.c .z .n)))) (own_unfocus (K := kT_66) hlfc75 (List.getElem?_eq_some_iff.1 hy76).1 rfl) ?_
 have hley4 : (entsAt f.inodes a).length = y4.ents.length ∨ True := .inr trivial
 try have hlny4 : (entsAt f.inodes a).length = y4.ents.length := by rw [ny4]
 have hloy4 := look_or (s := s) ht ny4
 have hley19 : (entsAt f.inodes a).length = y19.ents.length ∨ True := .inr trivial
 try have hlny19 : (entsAt f.inodes a).length = y19.ents.length := by rw [ny19]
 have hloy19 := look_or (s := s) ht ny19
 have hley33 : (entsAt f.inodes a).length = y33.ents.length ∨ True := .inr trivial
 try have hlny33 : (entsAt f.inodes a).length = y33.ents.length := by rw [ny33]
 have hloy33 := look_or (s := s) ht ny33
 have hley47 : (entsAt f.inodes a).length = y47.ents.length ∨ True := .inr trivial
 try have hlny47 : (entsAt f.inodes a).length = y47.ents.length := by rw [ny47]
 have hloy47 := look_or (s := s) ht ny47
 have hley60 : (entsAt f.inodes a).length = y60.ents.length ∨ True := .inr trivial
 try have hlny60 : (entsAt f.inodes a).length = y60.ents.length := by rw [ny60]
 have hloy60 := look_or (s := s) ht ny60
 have hlk : kindAt f.inodes b = 1 ∨ linksAt f.inodes b = 0 := by by_cases hk : kindAt f.inodes b = 1; exact .inl hk; exact .inr (links_kind hI hk)
 have he87 : List.set (withE f.inodes a (putE (entsAt f.inodes a) ⟨s, b⟩)) (Int.toNat b) (⟨y76.kind, y76.links + 1, y76.size, y76.blocks, y76.ents⟩ : DInode) = withL (withE f.inodes a (putE (entsAt f.inodes a) ⟨s, b⟩)) b (linksAt f.inodes b + 1) := (by rw [← hTn, lT]; exact withL_at hy76 (by omega))
 refine FJ.chEq .z (congrArg (fun z_ => (ownA kSl_66 (z_) [.slice (some ad12) f.inodes.length co1] : Asn)) he87) ?_
 refine FJ.doneS (res1 rfl .z) (.c (.s (.s (.s .z))) (.c .z (.c (.s .z) .n))) ?_
 first | (have hc := addC_7 (f := f) (a := a) (s := s) (b := b) (by omega); exact ⟨_, _, by rw [hc], by rw [addF_n (by rw [hc]; decide)]⟩) | (have hc := addC_4 (f := f) (a := a) (s := s) (b := b) (by omega) (by rintro ⟨⟨h1, h2⟩, h3⟩; first | omega | (simp_all; done) | (simp_all; omega)); exact ⟨_, _, by rw [hc], by rw [addF_n (by rw [hc]; decide)]⟩) | (have hc := addC_2 (f := f) (a := a) (s := s) (b := b) (by omega) ⟨⟨by omega, by omega⟩, by omega⟩ (by omega); exact ⟨_, _, by rw [hc], by rw [addF_n (by rw [hc]; decide)]⟩) | (have hc := addC_0 (f := f) (a := a) (s := s) (b := b) (by omega) ⟨⟨by omega, by omega⟩, by omega⟩ (by omega); exact ⟨_, _, by rw [hc], by rw [addF_d hc (by omega)]⟩) | (have hc := addC_0 (f := f) (a := a) (s := s) (b := b) (by omega) ⟨⟨by omega, by omega⟩, by omega⟩ (by omega); exact ⟨_, _, by rw [hc], by rw [addF_f hc (by omega)]⟩)
 exfalso; first | omega | contradiction
 refine FJ.skipl rfl rfl .z rfl rfl (by decide) rfl ?_
 refine FJ.skipl rfl rfl (.s .z) rfl rfl (by decide) rfl ?_
 refine FJ.skipl rfl rfl (.s (.s .z)) rfl rfl (by decide) rfl ?_
 refine FJ.skipl rfl rfl (.s (.s (.s .z))) rfl rfl (by decide) rfl ?_
 refine FJ.skipl rfl rfl (.s4 .z) rfl rfl (by decide) rfl ?_
 refine FJ.skipl rfl rfl (.s4 (.s .z)) rfl rfl (by decide) rfl ?_
 refine FJ.skipl rfl rfl (.s4 (.s (.s .z))) rfl rfl (by decide) rfl ?_
 refine FJ.skipl rfl rfl (.s4 (.s (.s (.s .z)))) rfl rfl (by decide) rfl ?_
 refine FJ.skipl rfl rfl (.s4 (.s4 .z)) rfl rfl (by decide) rfl ?_
 refine FJ.q (goes_listg rfl rfl (.s4 (.s4 (.s (.s (.s .z)))))) rfl (by decide) rfl (q_pickF rfl (.t (.s4 (.s4 (.s .z)))) .c) ?_
 refine FJ.ql rfl (q_pickF rfl (.t (.s4 (.s4 (.s4 .z)))) (.t .z)) (FJ.nil (FJ.then_ ?_))
 refine FJ.condF (.t .z) ?_
 refine FJ.skip (FJ.then_ (FJ.seq ?_))
 refine FJ.turns (c := ownA kT_66 y33 [.int .i64 y33.kind, .int .i64 y33.links, .int .i64 y33.size, .slice Ao39 y33.blocks.length co39, .slice Ao40 y33.ents.length co40]) (.c .z (.c .z .n)) (fun w S h => kT_66_omk y33 h) ?_
 refine FJ.turns (c := ownA kSl_66 f.inodes [.slice (some ad12) f.inodes.length co1]) (.c (.s (.s (.s .z))) (.c .z (.c .z (.c .z .n)))) (own_unfocus0 (K := kT_66) hlfc32 hy33 hc34) ?_
 refine FJ.open (.c .z .n) own_raw ?_
 rintro fc89 hlfc89
 obtain ⟨y90, hy90⟩ := get_ex (xs := f.inodes) (j := Int.toNat a) (by first | omega | (simp only [takeF, withE_len, withL_len]; omega))
 obtain ⟨c91, hc91⟩ := get_ex (xs := fc89) (j := Int.toNat a) (by rw [hlfc89]; exact (List.getElem?_eq_some_iff.1 hy90).1)
 refine FJ.turn (.s .z) (seq_split hy90 hc91) ?_
 refine FJ.open (.c .z .n) kT_66_op ?_
 rintro ⟨v92, v93⟩ rfl
 refine FJ.know (WS.oform .z) ?_
 rintro ⟨Ao96, co96, rfl, hlo96, hmo96, hbo96⟩
 refine FJ.know (WS.oform (.s .z)) ?_
 rintro ⟨Ao97, co97, rfl, hlo97, hmo97, hbo97⟩
 have ky90 := kind_at (i := a) hy90 (by omega)
 have ny90 := ents_at (a := a) hy90 (by omega)
 have ly90 := links_at (a := a) hy90 (by omega)
 have hqy90 : (entsAt f.inodes a).length = y90.ents.length := by rw [ny90]
 refine FJ.sel (.c .z (.c .z (.c (.s4 .z) (.c .z (.c .z (.c .z (.c .z .n))))))) ?_
 refine FJ.draw [seqC kT_66 (List.take (Int.toNat a) f.inodes) (List.take (Int.toNat a) fc89), seqC kT_66 (List.drop (Int.toNat a + 1) f.inodes) (List.drop (Int.toNat a + 1) fc89), ownA (kslice 66 72 (kraw kT_66.sz kT_66.pos)) fc89 [.slice (some ad12) f.inodes.length co1], rowA g0 e0 s0 1 ((.slice (some ad12) f.inodes.length co1) :: (.slice Ao2 f.data.length co2) :: post0)] 19 (by kernel_rfl) ?_
 refine FJ.sch [(0, true), (1, true), (2, true), (3, true), (4, true), (5, true), (6, true), (7, true), (8, true), (9, true), (10, true), (11, true), (12, true), (13, true), (14, true), (15, true), (16, false), (17, false), (18, true), (19, false)] 0 #[true, true, true, true, true, true, true, true, true, true, true, true, true, true, true, true, true, true, true, true] (by rfl) (by kernel_rfl) ?_
 refine FJ.dq rfl rfl rfl (by decide) rfl (.s (.s (.s .z))) (q_move rfl (.t (.s16 (.s16 (.s16 (.s4 (.s4 (.s4 (.s .z))))))))) (FJ.dq rfl rfl rfl (by decide) rfl (.s (.s (.s .z))) (q_nilCheck rfl (.t .z)) (FJ.dq rfl rfl rfl (by decide) rfl (.s (.s (.s .z))) (q_fieldAddr rfl (.t .z) (fun _ => fa_26_0 _ _)) (FJ.dq rfl rfl rfl (by decide) rfl (.s (.s (.s .z))) (q_load rfl ag_24 (.t .z) (WS.row (.s (.s (.s .z))) rfl)) (FJ.dq rfl rfl rfl (by decide) rfl (.s (.s (.s .z))) (q_move rfl (.t (.s16 (.s16 (.s16 (.s16 (.s (.s .z)))))))) ?_))))
 refine FJ.dq rfl rfl rfl (by decide) rfl (.s (.s (.s .z))) (q_move rfl (.t (.s16 (.s16 (.s16 (.s16 (.s (.s .z)))))))) (FJ.dq rfl rfl rfl (by decide) rfl (.s (.s (.s .z))) (q_nilCheck rfl (.t .z)) (FJ.dq rfl rfl rfl (by decide) rfl (.s (.s (.s .z))) (q_fieldAddr rfl (.t .z) (fun _ => fa_26_0 _ _)) (FJ.dq rfl rfl rfl (by decide) rfl (.s (.s (.s .z))) (q_load rfl ag_24 (.t .z) (WS.row (.s (.s (.s .z))) rfl)) (FJ.dq rfl rfl rfl (by decide) rfl (.s (.s (.s .z))) (q_move rfl (.t (.s16 (.s16 (.s16 (.s16 (.s4 (.s (.s (.s .z)))))))))) ?_))))
 refine FJ.dq rfl rfl rfl (by decide) rfl (.s (.s (.s .z))) (q_indexAddr (j := Int.toNat a) rfl u_24 sz_66 (.t (.s .z)) (.t .z) (by omega) (by first | omega | (simp only [takeF, withE_len, withL_len]; omega))) ?_
 refine FJ.dq rfl rfl rfl (by decide) rfl (.s (.s (.s .z))) (q_fieldAddr rfl (.t .z) (fun _ => fa_66_4 _ _)) (FJ.dq rfl rfl rfl (by decide) rfl (.s (.s (.s .z))) (q_load rfl ag_64 (.t .z) (WS.raw (.s (.s .z)) hc91 rfl)) (FJ.dq rfl rfl rfl (by decide) rfl (.s (.s (.s .z))) (q_move rfl (.t (.s16 (.s16 (.s16 (.s16 (.s4 (.s4 (.s4 .z))))))))) (FJ.dq rfl rfl rfl (by decide) rfl (.s (.s (.s .z))) (q_move rfl (.t (.s16 (.s16 (.s16 (.s16 (.s4 (.s4 (.s4 (.s (.s .z))))))))))) ?_)))
 refine FJ.dq rfl rfl rfl (by decide) rfl (.s (.s (.s .z))) (q_build (ps := [(0, .string s), (1, .int .i64 b)]) (cs := [.string s, .int .i64 b]) rfl bl_68 (by intro act hact; simp only [List.map_toArray, List.map_cons, List.map_nil, (show Val _ _ _ from (.t (.s .z))) act hact, (show Val _ _ _ from (.t .z)) act hact]) rfl) ?_
 refine FJ.call (goes_sch rfl rfl) rfl (by decide) rfl (c_call rfl Tryz.func116 rfl rfl (args2 (.t (.s (.s (.s .z)))) (.t .z))) .n (fun w1 S1 hs tr => c_116 (tr.own (.s .z)) (kT_68_mk (⟨s, b⟩ : DEnt) (by assumption)) (by omega)) ?_
 rintro _ _ rfl
 refine FJ.cat (.c .n) ?_
 refine FJ.know (WS.oform .z) ?_
 rintro ⟨Ao100, co100, rfl, hlo100, hmo100, hbo100⟩
 refine FJ.sk (.s4 .z) ?_
 refine FJ.q (goes_sch rfl rfl) rfl (by decide) rfl (q_indexAddr (j := Int.toNat a) rfl u_24 sz_66 (.t (.s4 (.s4 (.s4 (.s .z))))) (.t (.s4 (.s4 (.s4 .z)))) (by omega) (by first | omega | (simp only [takeF, withE_len, withL_len]; omega))) ?_
 refine FJ.sk (.s4 .z) ?_
 refine FJ.dq rfl rfl rfl (by decide) rfl (.s4 .z) (q_fieldAddr rfl (.t .z) (fun _ => fa_66_4 _ _)) ?_
 refine FJ.es (goes_sch rfl rfl) rfl (es_raw (j := Int.toNat a) (off := 4) (cs := [.slice Ao100 (putE y90.ents (⟨s, b⟩ : DEnt)).length co100]) rfl sz_64 (.t .z) (add_add _ _ _) (.t (.s (.s .z))) rfl (ones rfl) (.s4 (.s (.s .z))) hc91 (Nat.le_of_ble_eq_true rfl)) ?_
 refine FJ.ceq (x' := List.set fc89 (Int.toNat a) [.int .i64 y90.kind, .int .i64 y90.links, .int .i64 y90.size, .slice Ao96 y90.blocks.length co96, .slice Ao100 (putE y90.ents (⟨s, b⟩ : DEnt)).length co100]) .z rfl ?_
 refine FJ.sl rfl ?_
 refine FJ.schN ?_
 refine FJ.drawN (by kernel_rfl) ?_
 refine FJ.then_ (FJ.seq (FJ.seq (FJ.region (FJ.ql rfl (q_move rfl (.t (.s16 (.s16 (.s4 (.s4 (.s (.s (.s .z))))))))) ?_))))
 refine FJ.nil (FJ.then_ ?_)
 refine FJ.condP (.t .z) (fun b102 => ?_) (fun b102 => ?_)
 exfalso; first | omega | contradiction
 refine FJ.skip (FJ.then_ (FJ.seq (FJ.region (FJ.er (.s16 (.s16 (.s16 (.s16 (.s16 .z))))) ?_))))
 refine FJ.ql rfl (q_assign rfl .c) (FJ.nil (FJ.then_ (FJ.ret ?_)))
 refine FJ.turns (c := ownA kT_66 (⟨y90.kind, y90.links, y90.size, y90.blocks, putE y90.ents (⟨s, b⟩ : DEnt)⟩ : DInode) [.int .i64 y90.kind, .int .i64 y90.links, .int .i64 y90.size, .slice Ao96 y90.blocks.length co96, .slice Ao100 (putE y90.ents (⟨s, b⟩ : DEnt)).length co100]) (.c (.s (.s .z)) (.c (.s .z) .n)) (fun w S h => kT_66_omk (⟨y90.kind, y90.links, y90.size, y90.blocks, putE y90.ents (⟨s, b⟩ : DEnt)⟩ : DInode) h) ?_
 refine FJ.turns (c := ownA kSl_66 (List.set f.inodes (Int.toNat a) (⟨y90.kind, y90.links, y90.size, y90.blocks, putE y90.ents (⟨s, b⟩ : DEnt)⟩ : DInode)) [.slice (some ad12) f.inodes.length co1]) (.c (.s .z) (.c .z (.c (.s (.s .z)) (.c (.s (.s .z)) .n)))) (own_unfocus (K := kT_66) hlfc89 (List.getElem?_eq_some_iff.1 hy90).1 rfl) ?_
 have he104 : List.set f.inodes (Int.toNat a) (⟨y90.kind, y90.links, y90.size, y90.blocks, putE y90.ents (⟨s, b⟩ : DEnt)⟩ : DInode) = withE f.inodes a (putE (entsAt f.inodes a) ⟨s, b⟩) := (by rw [ny90]; exact withE_at hy90 (by omega))
 refine FJ.chEq .z (congrArg (fun z_ => (ownA kSl_66 (z_) [.slice (some ad12) f.inodes.length co1] : Asn)) he104) ?_
 have hley4 : (entsAt f.inodes a).length = y4.ents.length ∨ True := .inr trivial
 try have hlny4 : (entsAt f.inodes a).length = y4.ents.length := by rw [ny4]
 have hloy4 := look_or (s := s) ht ny4
 have hley19 : (entsAt f.inodes a).length = y19.ents.length ∨ True := .inr trivial
 try have hlny19 : (entsAt f.inodes a).length = y19.ents.length := by rw [ny19]
 have hloy19 := look_or (s := s) ht ny19
 have hley33 : (entsAt f.inodes a).length = y33.ents.length ∨ True := .inr trivial
 try have hlny33 : (entsAt f.inodes a).length = y33.ents.length := by rw [ny33]
 have hloy33 := look_or (s := s) ht ny33
 have hley90 : (entsAt f.inodes a).length = y90.ents.length ∨ True := .inr trivial
 try have hlny90 : (entsAt f.inodes a).length = y90.ents.length := by rw [ny90]
 have hloy90 := look_or (s := s) ht ny90
 have hlk : kindAt f.inodes b = 1 ∨ linksAt f.inodes b = 0 := by by_cases hk : kindAt f.inodes b = 1; exact .inl hk; exact .inr (links_kind hI hk)
 refine FJ.doneS (res1 rfl .z) (.c (.s (.s (.s .z))) (.c .z (.c (.s .z) .n))) ?_
 first | (have hc := addC_7 (f := f) (a := a) (s := s) (b := b) (by omega); exact ⟨_, _, by rw [hc], by rw [addF_n (by rw [hc]; decide)]⟩) | (have hc := addC_4 (f := f) (a := a) (s := s) (b := b) (by omega) (by rintro ⟨⟨h1, h2⟩, h3⟩; first | omega | (simp_all; done) | (simp_all; omega)); exact ⟨_, _, by rw [hc], by rw [addF_n (by rw [hc]; decide)]⟩) | (have hc := addC_2 (f := f) (a := a) (s := s) (b := b) (by omega) ⟨⟨by omega, by omega⟩, by omega⟩ (by omega); exact ⟨_, _, by rw [hc], by rw [addF_n (by rw [hc]; decide)]⟩) | (have hc := addC_0 (f := f) (a := a) (s := s) (b := b) (by omega) ⟨⟨by omega, by omega⟩, by omega⟩ (by omega); exact ⟨_, _, by rw [hc], by rw [addF_d hc (by omega)]⟩) | (have hc := addC_0 (f := f) (a := a) (s := s) (b := b) (by omega) ⟨⟨by omega, by omega⟩, by omega⟩ (by omega); exact ⟨_, _, by rw [hc], by rw [addF_f hc (by omega)]⟩)

end Go.Proofs.YtbcdcakcmdcafaaGreat

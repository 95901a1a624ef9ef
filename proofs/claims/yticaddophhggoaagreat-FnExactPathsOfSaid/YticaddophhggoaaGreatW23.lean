/- What is proved: contracts of functions, one a function. No condition. -/
import Derived.Test.YticaddophhggoaaGreatW22
import Derived.Test.YticaddophhggoaaGreatW9
import Derived.Test.YticaddophhggoaaGreatBase2
namespace Go.Proofs.YticaddophhggoaaGreat
open Go Go.RowKit
set_option linter.unusedVariables false
set_option linter.unusedSimpArgs false
set_option maxHeartbeats 1000000 in
set_option maxRecDepth 20000 in
theorem c_139 {w0 : World} {S0 : Bs} {f : DFs} {cs0 : List Value} (h0 : kT_31.ro w0 (FF w0 S0) f cs0) (ht : treeFault f = 0) :
    Calls Tryz.prog 139 #[.agg cs0.toArray] w0 (TriPost w0 S0 (fun r l => r = .int .i64 (linksF f) ∧ l = [])) := by
 obtain ⟨u0_0, u0_1, rfl, h0_0, h0_1⟩ := kT_31_ro h0
 obtain ⟨A0_0, c0_0, rfl, hl0_0, hm0_0, hb0_0, he0_0⟩ := ro_form h0_0
 obtain ⟨A0_1, c0_1, rfl, hl0_1, hm0_1, hb0_1, he0_1⟩ := ro_form h0_1
 have hI := treeI ht
 have hG := treeG ht
 have hL0 := treeL ht
 have h10 := inodes_10 hI
 have hd20 := data_20 ht
 refine FJ.enter (N := 66) Tryz.func139 rfl rfl (by simp) [(0, .agg #[.slice A0_0 f.inodes.length c0_0, .slice A0_1 f.data.length c0_1])] (by simp) (l0 := []) trivial ?_
 refine FJ.seq (FJ.region ?_)
 refine FJ.e (goes_list rfl) rfl (by decide) rfl (e_box (cs := [.slice A0_0 f.inodes.length c0_0, .slice A0_1 f.data.length c0_1]) (n := 2) rfl (.t .z) rfl rfl) ?_
 rintro _ _ ⟨g3, rfl, rfl⟩
 refine FJ.ql rfl (q_assign rfl .c) (FJ.nil (FJ.then_ (FJ.seq (FJ.region ?_))))
 refine FJ.ql rfl (q_fieldAddr rfl (.t (.s .z)) (fun _ => fa_31_0 _ _)) (FJ.ql rfl (q_load rfl ag_29 (.t .z) (WS.row .z rfl)) ?_)
 refine FJ.call (goes_list rfl) rfl (by decide) rfl (c_call rfl Tryz.func182 rfl rfl (args2 (.t .z) .c)) .n (fun w1 S1 hs tr => c_182 (tr.ctx h0_0) _ (treeI (by assumption)) (treeG (by assumption)) (by constructor <;> first | omega | (have := treeL (by assumption); omega))) ?_
 rintro _ _ rfl
 refine FJ.cat (.c .n) ?_
 refine FJ.know (WS.oform .z) ?_
 rintro ⟨Ao5, co5, rfl, hlo5, hmo5, hbo5⟩
 refine FJ.ql rfl (q_assign rfl (.t .z)) (FJ.nil (FJ.then_ (FJ.seq (FJ.seq ?_))))
 refine FJ.region (FJ.ql rfl (q_fieldAddr rfl (.t (.s4 (.s .z))) (fun _ => fa_31_0 _ _)) (FJ.ql rfl (q_load rfl ag_29 (.t .z) (WS.row (.s .z) rfl)) (FJ.ql rfl (q_len rfl u_29 (.t .z)) (FJ.ql rfl (q_move rfl .c) ?_))))
 refine FJ.nil (FJ.then_ (FJ.block ?_))
 refine FJ.loopi (γ := Nat) (fun k => [(14, .int .i64 (k : Int)), (13, .int .i64 (f.inodes.length : Int)), (12, .slice A0_0 f.inodes.length c0_0), (3, .slice Ao5 (reachL f.inodes (Int.toNat 0)).length co5), (1, .pointer (some ⟨g3, 0, none⟩))]) (fun k => [ownA kSl_2 (reachL f.inodes (Int.toNat 0)) [.slice Ao5 (reachL f.inodes (Int.toNat 0)).length co5], rowA g3 31 2 1 [.slice A0_0 f.inodes.length c0_0, .slice A0_1 f.data.length c0_1]]) (fun k => k ≤ f.inodes.length ∧ ∀ j x, j < k → f.inodes[j]? = some x → LinkOk f j x) (fun k => f.inodes.length - k) 0 ⟨Nat.zero_le _, all_zero (q := fun j x => LinkOk f j x)⟩ (.c .z (.c (.s .z) (.c (.s (.s .z)) (.c (.s4 .z) (.c (.s4 (.s4 (.s .z))) .n))))) (fun _ h => h.sel (.c .z (.c .z .n))) ?_
 rintro k ⟨hk, hallk⟩
 refine FJ.seq (FJ.region (FJ.ql rfl (q_lss rfl (.t .z) (.t (.s .z))) (FJ.nil (FJ.then_ ?_))))
 refine FJ.seq ?_
 refine FJ.condP (.t .z) (fun b6 => ?_) (fun b6 => ?_)
 refine FJ.skip (FJ.then_ (FJ.seq (FJ.block (FJ.seq ?_))))
 refine FJ.region (FJ.ql rfl (q_move rfl (.t (.s .z))) ?_)
 obtain ⟨ad7, hAad7, hrad7⟩ := he0_0 (by omega)
 subst hAad7
 obtain ⟨x8, hx8⟩ := get_ex (xs := f.inodes) (j := k) (by omega)
 obtain ⟨ece9, hre9, hFe9, hce9⟩ := hrad7.elem hx8
 obtain ⟨ue9_3, ue9_4, rfl, he9_3, he9_4⟩ := kT_73_ro hre9
 obtain ⟨Ae9_3, ce9_3, rfl, hle9_3, hme9_3, hbe9_3, hee9_3⟩ := ro_form he9_3
 obtain ⟨Ae9_4, ce9_4, rfl, hle9_4, hme9_4, hbe9_4, hee9_4⟩ := ro_form he9_4
 have kx8 := kind_at (i := ((k : Nat) : Int)) hx8 (by omega)
 have nx8 := ents_at (a := ((k : Nat) : Int)) hx8 (by omega)
 have iox8 := inodes_all hI _ (List.mem_of_getElem? hx8)
 have kkx8 := kind_02 iox8
 refine FJ.ql rfl (q_indexAddr (j := k) rfl u_29 sz_73 (.t (.s4 .z)) (.t (.s (.s .z))) rfl (by omega)) ?_
 refine FJ.ql rfl (q_loadA (cs := [.int .i64 x8.kind, .int .i64 x8.links, .int .i64 x8.size, .slice Ae9_3 x8.blocks.length ce9_3, .slice Ae9_4 x8.ents.length ce9_4]) rfl ag_73 sz_73 (.t .z) (WS.els hFe9 hce9)) ?_
 refine FJ.e (goes_list rfl) rfl (by decide) rfl (e_alloc rfl z_73 rfl rfl) ?_
 rintro _ _ ⟨g12, rfl, rfl⟩
 refine FJ.ql rfl (q_assign rfl (.t (.s (.s (.s .z))))) ?_
 refine FJ.es (goes_list rfl) rfl (es_store (off := 0) (cs := [.int .i64 x8.kind, .int .i64 x8.links, .int .i64 x8.size, .slice Ae9_3 x8.blocks.length ce9_3, .slice Ae9_4 x8.ents.length ce9_4]) rfl sz_73 (.t (.s .z)) (.t (.s (.s .z))) rfl (ones rfl) .z (Nat.le_of_ble_eq_true rfl) (.c .z (.c (.s .z) (.c (.s (.s .z)) (.c (.s (.s (.s .z))) (.c (.s (.s (.s (.s .z)))) .n)))))) ?_
 refine FJ.nil (FJ.then_ (FJ.seq (FJ.region (FJ.ql rfl (q_move rfl (.t .z)) ?_))))
 refine FJ.ql rfl (q_assign rfl (.t .z)) (FJ.nil (FJ.then_ (FJ.seq (FJ.region ?_))))
 refine FJ.ql rfl (q_fieldAddr rfl (.t (.s4 (.s4 (.s4 .z)))) (fun _ => fa_31_0 _ _)) (FJ.ql rfl (q_load rfl ag_29 (.t .z) (WS.row (.s (.s .z)) rfl)) (FJ.ql rfl (q_move rfl (.t (.s (.s .z)))) ?_))
 refine FJ.call (goes_list rfl) rfl (by decide) rfl (c_call rfl Tryz.func110 rfl rfl (args2 (.t (.s .z)) (.t .z))) .n (fun w1 S1 hs tr => c_110 (tr.ctx h0_0) _ (by first | assumption | exact links_60 (by assumption) _ | (simp only [takeF] at *; assumption))) ?_
 rintro _ _ ⟨rfl, rfl⟩
 refine FJ.cat .n ?_
 refine FJ.ql rfl (q_assign rfl (.t .z)) (FJ.nil (FJ.then_ (FJ.block (FJ.seq ?_))))
 refine FJ.seq (FJ.region (FJ.ql rfl (q_fieldAddr rfl (.t (.s4 (.s4 .z))) (fun _ => fa_73_0 _ _)) (FJ.ql rfl (q_load rfl ag_2 (.t .z) (WS.row .z rfl)) (FJ.ql rfl (q_eql rfl (.t .z) .c) ?_))))
 refine FJ.ql rfl (q_move rfl (.t .z)) ?_
 refine FJ.caseP .z (fun g13 => ?_) (fun g13 => ?_)
 refine FJ.q (goes_listg rfl rfl .z) rfl (by decide) rfl (q_fieldAddr rfl (.t (.s4 (.s4 (.s4 .z)))) (fun _ => fa_73_1 _ _)) ?_
 refine FJ.q (goes_listg rfl rfl (.s .z)) rfl (by decide) rfl (q_load rfl ag_2 (.t .z) (WS.row .z rfl)) ?_
 refine FJ.q (goes_listg rfl rfl (.s (.s .z))) rfl (by decide) rfl (q_move rfl (.t (.s4 (.s (.s .z))))) ?_
 refine FJ.q (goes_listg rfl rfl (.s (.s (.s .z)))) rfl (by decide) rfl (q_neq rfl (.t (.s .z)) (.t .z)) ?_
 refine FJ.ql rfl (q_pickT rfl (.t (.s4 .z)) (.t .z)) (FJ.ql rfl (q_assign rfl (.t .z)) (FJ.nil (FJ.then_ ?_)))
 refine FJ.condN (.t .z) (fun b14 => ?_) (fun b14 => ?_)
 refine FJ.skip (FJ.then_ ?_)
 refine FJ.condN (.t .z) (fun b15 => ?_) (fun b15 => ?_)
 refine FJ.seq (FJ.region (FJ.ql rfl (q_assign rfl .c) (FJ.nil (FJ.then_ ?_))))
 refine FJ.ret (FJ.inBR (FJ.inBR (FJ.thenR (FJ.thenR ?_))))
 refine FJ.inBR (FJ.thenR ?_)
 refine FJ.doneS (res1 rfl .z) .n ?_
 exact ⟨by first | (rw [linksF_1 (fun hl => by have hk0 := hl k _ hx8; first | (have e := hk0.file (by omega); omega) | (have e := hk0.root (by omega) (by omega); omega) | (have e := hk0.dir (by omega) (by omega); omega) | exact absurd (hk0.way (by omega)) (by assumption))]; done) | (rw [linksF_0 (links_yes (k := k) (by omega) hallk)]; done), rfl⟩
 exfalso; first | omega | contradiction
 refine FJ.seq (FJ.region (FJ.ql rfl (q_fieldAddr rfl (.t (.s16 (.s (.s .z)))) (fun _ => fa_73_0 _ _)) (FJ.ql rfl (q_load rfl ag_2 (.t .z) (WS.row .z rfl)) (FJ.ql rfl (q_eql rfl (.t .z) .c) ?_))))
 refine FJ.ql rfl (q_move rfl (.t .z)) ?_
 refine FJ.caseP .z (fun g16 => ?_) (fun g16 => ?_)
 exfalso; first | omega | contradiction
 refine FJ.skipl rfl rfl .z rfl rfl (by decide) rfl ?_
 refine FJ.skipl rfl rfl (.s .z) rfl rfl (by decide) rfl ?_
 refine FJ.ql rfl (q_pickF rfl (.t (.s (.s .z))) .c) (FJ.ql rfl (q_move rfl (.t .z)) ?_)
 refine FJ.skipl rfl rfl .z rfl rfl (by decide) rfl ?_
 refine FJ.skipl rfl rfl (.s .z) rfl rfl (by decide) rfl ?_
 refine FJ.ql rfl (q_pickF rfl (.t (.s (.s .z))) .c) (FJ.er (.s4 (.s4 (.s (.s (.s .z))))) (FJ.ql rfl (q_assign rfl (.t .z)) (FJ.nil (FJ.then_ ?_))))
 refine FJ.condF (.t .z) ?_
 refine FJ.seq (FJ.region (FJ.ql rfl (q_fieldAddr rfl (.t (.s16 (.s4 (.s4 (.s4 (.s .z)))))) (fun _ => fa_73_0 _ _)) (FJ.ql rfl (q_load rfl ag_2 (.t .z) (WS.row .z rfl)) (FJ.ql rfl (q_eql rfl (.t .z) .c) ?_))))
 refine FJ.ql rfl (q_move rfl (.t .z)) ?_
 refine FJ.caseP .z (fun g17 => ?_) (fun g17 => ?_)
 exfalso; first | omega | contradiction
 refine FJ.skipl rfl rfl .z rfl rfl (by decide) rfl ?_
 refine FJ.skipl rfl rfl (.s .z) rfl rfl (by decide) rfl ?_
 refine FJ.ql rfl (q_pickF rfl (.t (.s (.s .z))) .c) (FJ.ql rfl (q_move rfl (.t .z)) ?_)
 refine FJ.skipl rfl rfl .z rfl rfl (by decide) rfl ?_
 refine FJ.skipl rfl rfl (.s .z) rfl rfl (by decide) rfl ?_
 refine FJ.ql rfl (q_pickF rfl (.t (.s (.s .z))) .c) (FJ.er (.s4 (.s4 (.s (.s (.s .z))))) (FJ.ql rfl (q_assign rfl (.t .z)) (FJ.nil (FJ.then_ ?_))))
 refine FJ.condF (.t .z) ?_
 refine FJ.region (FJ.ql rfl (q_fieldAddr rfl (.t (.s16 (.s16 (.s4 (.s4 .z))))) (fun _ => fa_73_0 _ _)) (FJ.ql rfl (q_load rfl ag_2 (.t .z) (WS.row .z rfl)) (FJ.ql rfl (q_neq rfl (.t .z) .c) (FJ.ql rfl (q_move rfl (.t .z)) ?_))))
 refine FJ.caseN .z (fun g18 => ?_) (fun g18 => ?_)
 refine FJ.q (goes_listg rfl rfl .z) rfl (by decide) rfl (q_move rfl (.t (.s16 (.s16 (.s16 (.s4 .z)))))) ?_
 refine FJ.q (goes_listg rfl rfl (.s .z)) rfl (by decide) rfl (q_move rfl (.t (.s16 (.s16 (.s4 (.s4 (.s (.s .z)))))))) ?_
 refine FJ.call (goes_listg rfl rfl (.s (.s .z))) rfl (by decide) rfl (c_call rfl Tryz.func183 rfl rfl (args2 (.t (.s .z)) (.t .z))) .n (fun w1 S1 hs tr => c_183 (tr.own (.s .z)) _) ?_
 rintro _ _ ⟨rfl, rfl⟩
 refine FJ.cat .n ?_
 refine FJ.q (goes_listg rfl rfl (.s (.s (.s .z)))) rfl (by decide) rfl (q_not rfl (.t .z)) ?_
 refine FJ.ql rfl (q_pickT rfl (.t (.s4 .z)) (.t .z)) (FJ.er (.s4 (.s4 (.s .z))) (FJ.ql rfl (q_assign rfl (.t .z)) (FJ.nil (FJ.then_ ?_))))
 refine FJ.condN (.t .z) (fun b19 => ?_) (fun b19 => ?_)
 refine FJ.seq (FJ.region (FJ.ql rfl (q_assign rfl .c) (FJ.nil (FJ.then_ ?_))))
 refine FJ.ret (FJ.inBR (FJ.inBR (FJ.thenR (FJ.thenR ?_))))
 refine FJ.inBR (FJ.thenR ?_)
 refine FJ.doneS (res1 rfl .z) .n ?_
 exact ⟨by first | (rw [linksF_1 (fun hl => by have hk0 := hl k _ hx8; first | (have e := hk0.file (by omega); omega) | (have e := hk0.root (by omega) (by omega); omega) | (have e := hk0.dir (by omega) (by omega); omega) | exact absurd (hk0.way (by omega)) (by assumption))]; done) | (rw [linksF_0 (links_yes (k := k) (by omega) hallk)]; done), rfl⟩
 refine FJ.skip (FJ.inBN (FJ.inBN (FJ.then_ (FJ.region ?_))))
 refine FJ.ql rfl (q_add (c := ((k + 1 : Nat) : Int)) rfl (.t (.s16 (.s16 (.s16 (.s4 (.s (.s .z))))))) .c (wr (by omega) (by omega) (by omega))) ?_
 refine FJ.er (.s16 (.s16 (.s16 (.s4 (.s (.s (.s .z))))))) (FJ.ql rfl (q_move rfl (.t .z)) (FJ.nil ?_))
 refine FJ.again (k + 1) ⟨by omega, all_succ (q := fun j x => LinkOk f j x) hallk hx8 ⟨fun h1 => by first | omega | contradiction, fun h1 h2 => by first | omega | contradiction, fun h1 h2 => by first | omega | contradiction, fun h1 => by first | assumption | contradiction | (exfalso; omega)⟩⟩ (by first | omega | (dsimp only; omega)) (.c .z (.c (.s16 (.s16 (.s16 (.s4 (.s4 .z))))) (.c (.s16 (.s16 (.s16 (.s4 (.s4 (.s .z)))))) (.c (.s16 (.s16 (.s16 (.s4 (.s4 (.s (.s .z))))))) (.c (.s16 (.s16 (.s16 (.s4 (.s4 (.s (.s (.s .z)))))))) .n))))) (fun _ h => h.sel (.c (.s .z) (.c (.s .z) .n)))
 exfalso; first | omega | contradiction
 refine FJ.skipl rfl rfl .z rfl rfl (by decide) rfl ?_
 refine FJ.skipl rfl rfl (.s .z) rfl rfl (by decide) rfl ?_
 refine FJ.skipl rfl rfl (.s (.s .z)) rfl rfl (by decide) rfl ?_
 refine FJ.skipl rfl rfl (.s (.s (.s .z))) rfl rfl (by decide) rfl ?_
 refine FJ.ql rfl (q_pickF rfl (.t (.s4 .z)) .c) (FJ.ql rfl (q_assign rfl (.t .z)) (FJ.nil (FJ.then_ ?_)))
 refine FJ.condF (.t .z) ?_
 refine FJ.seq (FJ.region (FJ.ql rfl (q_fieldAddr rfl (.t (.s16 (.s (.s .z)))) (fun _ => fa_73_0 _ _)) (FJ.ql rfl (q_load rfl ag_2 (.t .z) (WS.row .z rfl)) (FJ.ql rfl (q_eql rfl (.t .z) .c) ?_))))
 refine FJ.ql rfl (q_move rfl (.t .z)) ?_
 refine FJ.caseP .z (fun g20 => ?_) (fun g20 => ?_)
 refine FJ.q (goes_listg rfl rfl .z) rfl (by decide) rfl (q_move rfl (.t (.s16 (.s (.s (.s .z)))))) ?_
 refine FJ.q (goes_listg rfl rfl (.s .z)) rfl (by decide) rfl (q_eql rfl (.t .z) .c) ?_
 refine FJ.ql rfl (q_pickT rfl (.t (.s (.s .z))) (.t .z)) (FJ.ql rfl (q_move rfl (.t .z)) ?_)
 refine FJ.caseP .z (fun g21 => ?_) (fun g21 => ?_)
 refine FJ.q (goes_listg rfl rfl .z) rfl (by decide) rfl (q_move rfl (.t (.s16 (.s (.s .z))))) ?_
 refine FJ.q (goes_listg rfl rfl (.s .z)) rfl (by decide) rfl (q_neq rfl (.t .z) .c) ?_
 refine FJ.ql rfl (q_pickT rfl (.t (.s (.s .z))) (.t .z)) (FJ.er (.s4 (.s4 (.s (.s (.s .z))))) (FJ.ql rfl (q_assign rfl (.t .z)) (FJ.nil (FJ.then_ ?_))))
 refine FJ.condN (.t .z) (fun b22 => ?_) (fun b22 => ?_)
 refine FJ.skip (FJ.then_ ?_)
 refine FJ.condN (.t .z) (fun b23 => ?_) (fun b23 => ?_)
 refine FJ.seq (FJ.region (FJ.ql rfl (q_assign rfl .c) (FJ.nil (FJ.then_ ?_))))
 refine FJ.ret (FJ.inBR (FJ.inBR (FJ.thenR (FJ.thenR ?_))))
 refine FJ.inBR (FJ.thenR ?_)
 refine FJ.doneS (res1 rfl .z) .n ?_
 exact ⟨by first | (rw [linksF_1 (fun hl => by have hk0 := hl k _ hx8; first | (have e := hk0.file (by omega); omega) | (have e := hk0.root (by omega) (by omega); omega) | (have e := hk0.dir (by omega) (by omega); omega) | exact absurd (hk0.way (by omega)) (by assumption))]; done) | (rw [linksF_0 (links_yes (k := k) (by omega) hallk)]; done), rfl⟩
 exfalso; first | omega | contradiction
 refine FJ.seq (FJ.region (FJ.ql rfl (q_fieldAddr rfl (.t (.s16 (.s4 (.s4 (.s4 (.s .z)))))) (fun _ => fa_73_0 _ _)) (FJ.ql rfl (q_load rfl ag_2 (.t .z) (WS.row .z rfl)) (FJ.ql rfl (q_eql rfl (.t .z) .c) ?_))))
 refine FJ.ql rfl (q_move rfl (.t .z)) ?_
 refine FJ.caseP .z (fun g24 => ?_) (fun g24 => ?_)
 refine FJ.q (goes_listg rfl rfl .z) rfl (by decide) rfl (q_move rfl (.t (.s16 (.s4 (.s4 (.s4 (.s (.s .z)))))))) ?_
 refine FJ.q (goes_listg rfl rfl (.s .z)) rfl (by decide) rfl (q_gtr rfl (.t .z) .c) ?_
 refine FJ.ql rfl (q_pickT rfl (.t (.s (.s .z))) (.t .z)) (FJ.ql rfl (q_move rfl (.t .z)) ?_)
 refine FJ.caseP .z (fun g25 => ?_) (fun g25 => ?_)
 refine FJ.q (goes_listg rfl rfl .z) rfl (by decide) rfl (q_move rfl (.t (.s16 (.s4 (.s4 (.s4 (.s .z))))))) ?_
 refine FJ.q (goes_listg rfl rfl (.s .z)) rfl (by decide) rfl (q_neq rfl (.t .z) .c) ?_
 refine FJ.ql rfl (q_pickT rfl (.t (.s (.s .z))) (.t .z)) (FJ.er (.s4 (.s4 (.s (.s (.s .z))))) (FJ.ql rfl (q_assign rfl (.t .z)) (FJ.nil (FJ.then_ ?_))))
 refine FJ.condN (.t .z) (fun b26 => ?_) (fun b26 => ?_)
 refine FJ.skip (FJ.then_ ?_)
 refine FJ.condN (.t .z) (fun b27 => ?_) (fun b27 => ?_)
 refine FJ.seq (FJ.region (FJ.ql rfl (q_assign rfl .c) (FJ.nil (FJ.then_ ?_))))
 refine FJ.ret (FJ.inBR (FJ.inBR (FJ.thenR (FJ.thenR ?_))))
 refine FJ.inBR (FJ.thenR ?_)
 refine FJ.doneS (res1 rfl .z) .n ?_
 exact ⟨by first | (rw [linksF_1 (fun hl => by have hk0 := hl k _ hx8; first | (have e := hk0.file (by omega); omega) | (have e := hk0.root (by omega) (by omega); omega) | (have e := hk0.dir (by omega) (by omega); omega) | exact absurd (hk0.way (by omega)) (by assumption))]; done) | (rw [linksF_0 (links_yes (k := k) (by omega) hallk)]; done), rfl⟩
 exfalso; first | omega | contradiction
 exfalso; first | omega | contradiction
 refine FJ.skipl rfl rfl .z rfl rfl (by decide) rfl ?_
 refine FJ.skipl rfl rfl (.s .z) rfl rfl (by decide) rfl ?_
 refine FJ.ql rfl (q_pickF rfl (.t (.s (.s .z))) .c) (FJ.er (.s4 (.s4 (.s (.s (.s .z))))) (FJ.ql rfl (q_assign rfl (.t .z)) (FJ.nil (FJ.then_ ?_))))
 refine FJ.condF (.t .z) ?_
 refine FJ.region (FJ.ql rfl (q_fieldAddr rfl (.t (.s16 (.s16 (.s4 (.s4 .z))))) (fun _ => fa_73_0 _ _)) (FJ.ql rfl (q_load rfl ag_2 (.t .z) (WS.row .z rfl)) (FJ.ql rfl (q_neq rfl (.t .z) .c) (FJ.ql rfl (q_move rfl (.t .z)) ?_))))
 refine FJ.caseN .z (fun g28 => ?_) (fun g28 => ?_)
 refine FJ.q (goes_listg rfl rfl .z) rfl (by decide) rfl (q_move rfl (.t (.s16 (.s16 (.s16 (.s4 .z)))))) ?_
 refine FJ.q (goes_listg rfl rfl (.s .z)) rfl (by decide) rfl (q_move rfl (.t (.s16 (.s16 (.s4 (.s4 (.s (.s .z)))))))) ?_
 refine FJ.call (goes_listg rfl rfl (.s (.s .z))) rfl (by decide) rfl (c_call rfl Tryz.func183 rfl rfl (args2 (.t (.s .z)) (.t .z))) .n (fun w1 S1 hs tr => c_183 (tr.own (.s .z)) _) ?_
 rintro _ _ ⟨rfl, rfl⟩
 refine FJ.cat .n ?_
 refine FJ.q (goes_listg rfl rfl (.s (.s (.s .z)))) rfl (by decide) rfl (q_not rfl (.t .z)) ?_
 refine FJ.ql rfl (q_pickT rfl (.t (.s4 .z)) (.t .z)) (FJ.er (.s4 (.s4 (.s .z))) (FJ.ql rfl (q_assign rfl (.t .z)) (FJ.nil (FJ.then_ ?_))))
 refine FJ.condN (.t .z) (fun b29 => ?_) (fun b29 => ?_)
 refine FJ.seq (FJ.region (FJ.ql rfl (q_assign rfl .c) (FJ.nil (FJ.then_ ?_))))
 refine FJ.ret (FJ.inBR (FJ.inBR (FJ.thenR (FJ.thenR ?_))))
 refine FJ.inBR (FJ.thenR ?_)
 refine FJ.doneS (res1 rfl .z) .n ?_
 exact ⟨by first | (rw [linksF_1 (fun hl => by have hk0 := hl k _ hx8; first | (have e := hk0.file (by omega); omega) | (have e := hk0.root (by omega) (by omega); omega) | (have e := hk0.dir (by omega) (by omega); omega) | exact absurd (hk0.way (by omega)) (by assumption))]; done) | (rw [linksF_0 (links_yes (k := k) (by omega) hallk)]; done), rfl⟩
 refine FJ.skip (FJ.inBN (FJ.inBN (FJ.then_ (FJ.region ?_))))
 refine FJ.ql rfl (q_add (c := ((k + 1 : Nat) : Int)) rfl (.t (.s16 (.s16 (.s16 (.s4 (.s (.s .z))))))) .c (wr (by omega) (by omega) (by omega))) ?_
 refine FJ.er (.s16 (.s16 (.s16 (.s4 (.s (.s (.s .z))))))) (FJ.ql rfl (q_move rfl (.t .z)) (FJ.nil ?_))
 refine FJ.again (k + 1) ⟨by omega, all_succ (q := fun j x => LinkOk f j x) hallk hx8 ⟨fun h1 => by first | omega | contradiction, fun h1 h2 => by first | omega | contradiction, fun h1 h2 => by first | omega | contradiction, fun h1 => by first | assumption | contradiction | (exfalso; omega)⟩⟩ (by first | omega | (dsimp only; omega)) (.c .z (.c (.s16 (.s16 (.s16 (.s4 (.s4 .z))))) (.c (.s16 (.s16 (.s16 (.s4 (.s4 (.s .z)))))) (.c (.s16 (.s16 (.s16 (.s4 (.s4 (.s (.s .z))))))) (.c (.s16 (.s16 (.s16 (.s4 (.s4 (.s (.s (.s .z)))))))) .n))))) (fun _ h => h.sel (.c (.s .z) (.c (.s .z) .n)))
 exfalso; first | omega | contradiction
 exfalso; first | omega | contradiction
 refine FJ.skipl rfl rfl .z rfl rfl (by decide) rfl ?_
 refine FJ.skipl rfl rfl (.s .z) rfl rfl (by decide) rfl ?_
 refine FJ.ql rfl (q_pickF rfl (.t (.s (.s .z))) .c) (FJ.er (.s4 (.s4 (.s (.s (.s .z))))) (FJ.ql rfl (q_assign rfl (.t .z)) (FJ.nil (FJ.then_ ?_))))
 refine FJ.condF (.t .z) ?_
 refine FJ.seq (FJ.region (FJ.ql rfl (q_fieldAddr rfl (.t (.s16 (.s4 (.s4 (.s4 (.s .z)))))) (fun _ => fa_73_0 _ _)) (FJ.ql rfl (q_load rfl ag_2 (.t .z) (WS.row .z rfl)) (FJ.ql rfl (q_eql rfl (.t .z) .c) ?_))))
 refine FJ.ql rfl (q_move rfl (.t .z)) ?_
 refine FJ.caseP .z (fun g30 => ?_) (fun g30 => ?_)
 refine FJ.q (goes_listg rfl rfl .z) rfl (by decide) rfl (q_move rfl (.t (.s16 (.s4 (.s4 (.s4 (.s (.s .z)))))))) ?_
 refine FJ.q (goes_listg rfl rfl (.s .z)) rfl (by decide) rfl (q_gtr rfl (.t .z) .c) ?_
 refine FJ.ql rfl (q_pickT rfl (.t (.s (.s .z))) (.t .z)) (FJ.ql rfl (q_move rfl (.t .z)) ?_)
 refine FJ.caseP .z (fun g31 => ?_) (fun g31 => ?_)
 refine FJ.q (goes_listg rfl rfl .z) rfl (by decide) rfl (q_move rfl (.t (.s16 (.s4 (.s4 (.s4 (.s .z))))))) ?_
 refine FJ.q (goes_listg rfl rfl (.s .z)) rfl (by decide) rfl (q_neq rfl (.t .z) .c) ?_
 refine FJ.ql rfl (q_pickT rfl (.t (.s (.s .z))) (.t .z)) (FJ.er (.s4 (.s4 (.s (.s (.s .z))))) (FJ.ql rfl (q_assign rfl (.t .z)) (FJ.nil (FJ.then_ ?_))))
 refine FJ.condN (.t .z) (fun b32 => ?_) (fun b32 => ?_)
 refine FJ.skip (FJ.then_ ?_)
 refine FJ.condN (.t .z) (fun b33 => ?_) (fun b33 => ?_)
 refine FJ.seq (FJ.region (FJ.ql rfl (q_assign rfl .c) (FJ.nil (FJ.then_ ?_))))
 refine FJ.ret (FJ.inBR (FJ.inBR (FJ.thenR (FJ.thenR ?_))))
 refine FJ.inBR (FJ.thenR ?_)
 refine FJ.doneS (res1 rfl .z) .n ?_
 exact ⟨by first | (rw [linksF_1 (fun hl => by have hk0 := hl k _ hx8; first | (have e := hk0.file (by omega); omega) | (have e := hk0.root (by omega) (by omega); omega) | (have e := hk0.dir (by omega) (by omega); omega) | exact absurd (hk0.way (by omega)) (by assumption))]; done) | (rw [linksF_0 (links_yes (k := k) (by omega) hallk)]; done), rfl⟩
 exfalso; first | omega | contradiction
 refine FJ.region (FJ.ql rfl (q_fieldAddr rfl (.t (.s16 (.s16 (.s4 (.s4 .z))))) (fun _ => fa_73_0 _ _)) (FJ.ql rfl (q_load rfl ag_2 (.t .z) (WS.row .z rfl)) (FJ.ql rfl (q_neq rfl (.t .z) .c) (FJ.ql rfl (q_move rfl (.t .z)) ?_))))
 refine FJ.caseN .z (fun g34 => ?_) (fun g34 => ?_)
 refine FJ.q (goes_listg rfl rfl .z) rfl (by decide) rfl (q_move rfl (.t (.s16 (.s16 (.s16 (.s4 .z)))))) ?_
 refine FJ.q (goes_listg rfl rfl (.s .z)) rfl (by decide) rfl (q_move rfl (.t (.s16 (.s16 (.s4 (.s4 (.s (.s .z)))))))) ?_
 refine FJ.call (goes_listg rfl rfl (.s (.s .z))) rfl (by decide) rfl (c_call rfl Tryz.func183 rfl rfl (args2 (.t (.s .z)) (.t .z))) .n (fun w1 S1 hs tr => c_183 (tr.own (.s .z)) _) ?_
 rintro _ _ ⟨rfl, rfl⟩
 refine FJ.cat .n ?_
 refine FJ.q (goes_listg rfl rfl (.s (.s (.s .z)))) rfl (by decide) rfl (q_not rfl (.t .z)) ?_
 refine FJ.ql rfl (q_pickT rfl (.t (.s4 .z)) (.t .z)) (FJ.er (.s4 (.s4 (.s .z))) (FJ.ql rfl (q_assign rfl (.t .z)) (FJ.nil (FJ.then_ ?_))))
 refine FJ.condN (.t .z) (fun b35 => ?_) (fun b35 => ?_)
 refine FJ.seq (FJ.region (FJ.ql rfl (q_assign rfl .c) (FJ.nil (FJ.then_ ?_))))
 refine FJ.ret (FJ.inBR (FJ.inBR (FJ.thenR (FJ.thenR ?_))))
 refine FJ.inBR (FJ.thenR ?_)
 refine FJ.doneS (res1 rfl .z) .n ?_
 exact ⟨by first | (rw [linksF_1 (fun hl => by have hk0 := hl k _ hx8; first | (have e := hk0.file (by omega); omega) | (have e := hk0.root (by omega) (by omega); omega) | (have e := hk0.dir (by omega) (by omega); omega) | exact absurd (hk0.way (by omega)) (by assumption))]; done) | (rw [linksF_0 (links_yes (k := k) (by omega) hallk)]; done), rfl⟩
 refine FJ.skip (FJ.inBN (FJ.inBN (FJ.then_ (FJ.region ?_))))
 refine FJ.ql rfl (q_add (c := ((k + 1 : Nat) : Int)) rfl (.t (.s16 (.s16 (.s16 (.s4 (.s (.s .z))))))) .c (wr (by omega) (by omega) (by omega))) ?_
 refine FJ.er (.s16 (.s16 (.s16 (.s4 (.s (.s (.s .z))))))) (FJ.ql rfl (q_move rfl (.t .z)) (FJ.nil ?_))
 refine FJ.again (k + 1) ⟨by omega, all_succ (q := fun j x => LinkOk f j x) hallk hx8 ⟨fun h1 => by first | omega | contradiction, fun h1 h2 => by first | omega | contradiction, fun h1 h2 => by first | omega | contradiction, fun h1 => by first | assumption | contradiction | (exfalso; omega)⟩⟩ (by first | omega | (dsimp only; omega)) (.c .z (.c (.s16 (.s16 (.s16 (.s4 (.s4 .z))))) (.c (.s16 (.s16 (.s16 (.s4 (.s4 (.s .z)))))) (.c (.s16 (.s16 (.s16 (.s4 (.s4 (.s (.s .z))))))) (.c (.s16 (.s16 (.s16 (.s4 (.s4 (.s (.s (.s .z)))))))) .n))))) (fun _ h => h.sel (.c (.s .z) (.c (.s .z) .n)))
 exfalso; first | omega | contradiction
 refine FJ.skipl rfl rfl .z rfl rfl (by decide) rfl ?_
 refine FJ.skipl rfl rfl (.s .z) rfl rfl (by decide) rfl ?_
 refine FJ.ql rfl (q_pickF rfl (.t (.s (.s .z))) .c) (FJ.er (.s4 (.s4 (.s (.s (.s .z))))) (FJ.ql rfl (q_assign rfl (.t .z)) (FJ.nil (FJ.then_ ?_))))
 refine FJ.condF (.t .z) ?_
 refine FJ.region (FJ.ql rfl (q_fieldAddr rfl (.t (.s16 (.s16 (.s4 (.s4 .z))))) (fun _ => fa_73_0 _ _)) (FJ.ql rfl (q_load rfl ag_2 (.t .z) (WS.row .z rfl)) (FJ.ql rfl (q_neq rfl (.t .z) .c) (FJ.ql rfl (q_move rfl (.t .z)) ?_))))
 refine FJ.caseN .z (fun g36 => ?_) (fun g36 => ?_)
 refine FJ.q (goes_listg rfl rfl .z) rfl (by decide) rfl (q_move rfl (.t (.s16 (.s16 (.s16 (.s4 .z)))))) ?_
 refine FJ.q (goes_listg rfl rfl (.s .z)) rfl (by decide) rfl (q_move rfl (.t (.s16 (.s16 (.s4 (.s4 (.s (.s .z)))))))) ?_
 refine FJ.call (goes_listg rfl rfl (.s (.s .z))) rfl (by decide) rfl (c_call rfl Tryz.func183 rfl rfl (args2 (.t (.s .z)) (.t .z))) .n (fun w1 S1 hs tr => c_183 (tr.own (.s .z)) _) ?_
 rintro _ _ ⟨rfl, rfl⟩
 refine FJ.cat .n ?_
 refine FJ.q (goes_listg rfl rfl (.s (.s (.s .z)))) rfl (by decide) rfl (q_not rfl (.t .z)) ?_
 refine FJ.ql rfl (q_pickT rfl (.t (.s4 .z)) (.t .z)) (FJ.er (.s4 (.s4 (.s .z))) (FJ.ql rfl (q_assign rfl (.t .z)) (FJ.nil (FJ.then_ ?_))))
 refine FJ.condN (.t .z) (fun b37 => ?_) (fun b37 => ?_)
 refine FJ.seq (FJ.region (FJ.ql rfl (q_assign rfl .c) (FJ.nil (FJ.then_ ?_))))
 refine FJ.ret (FJ.inBR (FJ.inBR (FJ.thenR (FJ.thenR ?_))))
 refine FJ.inBR (FJ.thenR ?_)
 refine FJ.doneS (res1 rfl .z) .n ?_
 exact ⟨by first | (rw [linksF_1 (fun hl => by have hk0 := hl k _ hx8; first | (have e := hk0.file (by omega); omega) | (have e := hk0.root (by omega) (by omega); omega) | (have e := hk0.dir (by omega) (by omega); omega) | exact absurd (hk0.way (by omega)) (by assumption))]; done) | (rw [linksF_0 (links_yes (k := k) (by omega) hallk)]; done), rfl⟩
 refine FJ.skip (FJ.inBN (FJ.inBN (FJ.then_ (FJ.region ?_))))
 refine FJ.ql rfl (q_add (c := ((k + 1 : Nat) : Int)) rfl (.t (.s16 (.s16 (.s16 (.s4 (.s (.s .z))))))) .c (wr (by omega) (by omega) (by omega))) ?_
 refine FJ.er (.s16 (.s16 (.s16 (.s4 (.s (.s (.s .z))))))) (FJ.ql rfl (q_move rfl (.t .z)) (FJ.nil ?_))
 refine FJ.again (k + 1) ⟨by omega, all_succ (q := fun j x => LinkOk f j x) hallk hx8 ⟨fun h1 => by first | omega | contradiction, fun h1 h2 => by first | omega | contradiction, fun h1 h2 => by first | omega | contradiction, fun h1 => by first | assumption | contradiction | (exfalso; omega)⟩⟩ (by first | omega | (dsimp only; omega)) (.c .z (.c (.s16 (.s16 (.s16 (.s4 (.s4 .z))))) (.c (.s16 (.s16 (.s16 (.s4 (.s4 (.s .z)))))) (.c (.s16 (.s16 (.s16 (.s4 (.s4 (.s (.s .z))))))) (.c (.s16 (.s16 (.s16 (.s4 (.s4 (.s (.s (.s .z)))))))) .n))))) (fun _ h => h.sel (.c (.s .z) (.c (.s .z) .n)))
 exfalso; first | omega | contradiction
 exfalso; first | omega | contradiction
 refine FJ.skipl rfl rfl .z rfl rfl (by decide) rfl ?_
 refine FJ.skipl rfl rfl (.s .z) rfl rfl (by decide) rfl ?_
 refine FJ.ql rfl (q_pickF rfl (.t (.s (.s .z))) .c) (FJ.ql rfl (q_move rfl (.t .z)) ?_)
 refine FJ.skipl rfl rfl .z rfl rfl (by decide) rfl ?_
 refine FJ.skipl rfl rfl (.s .z) rfl rfl (by decide) rfl ?_
 refine FJ.ql rfl (q_pickF rfl (.t (.s (.s .z))) .c) (FJ.er (.s4 (.s4 (.s (.s (.s .z))))) (FJ.ql rfl (q_assign rfl (.t .z)) (FJ.nil (FJ.then_ ?_))))
 refine FJ.condF (.t .z) ?_
 refine FJ.seq (FJ.region (FJ.ql rfl (q_fieldAddr rfl (.t (.s16 (.s4 (.s4 (.s4 (.s .z)))))) (fun _ => fa_73_0 _ _)) (FJ.ql rfl (q_load rfl ag_2 (.t .z) (WS.row .z rfl)) (FJ.ql rfl (q_eql rfl (.t .z) .c) ?_))))
 refine FJ.ql rfl (q_move rfl (.t .z)) ?_
 refine FJ.caseP .z (fun g38 => ?_) (fun g38 => ?_)
 exfalso; first | omega | contradiction
 refine FJ.skipl rfl rfl .z rfl rfl (by decide) rfl ?_
 refine FJ.skipl rfl rfl (.s .z) rfl rfl (by decide) rfl ?_
 refine FJ.ql rfl (q_pickF rfl (.t (.s (.s .z))) .c) (FJ.ql rfl (q_move rfl (.t .z)) ?_)
 refine FJ.skipl rfl rfl .z rfl rfl (by decide) rfl ?_
 refine FJ.skipl rfl rfl (.s .z) rfl rfl (by decide) rfl ?_
 refine FJ.ql rfl (q_pickF rfl (.t (.s (.s .z))) .c) (FJ.er (.s4 (.s4 (.s (.s (.s .z))))) (FJ.ql rfl (q_assign rfl (.t .z)) (FJ.nil (FJ.then_ ?_))))
 refine FJ.condF (.t .z) ?_
 refine FJ.region (FJ.ql rfl (q_fieldAddr rfl (.t (.s16 (.s16 (.s4 (.s4 .z))))) (fun _ => fa_73_0 _ _)) (FJ.ql rfl (q_load rfl ag_2 (.t .z) (WS.row .z rfl)) (FJ.ql rfl (q_neq rfl (.t .z) .c) (FJ.ql rfl (q_move rfl (.t .z)) ?_))))
 refine FJ.caseN .z (fun g39 => ?_) (fun g39 => ?_)
 refine FJ.q (goes_listg rfl rfl .z) rfl (by decide) rfl (q_move rfl (.t (.s16 (.s16 (.s16 (.s4 .z)))))) ?_
 refine FJ.q (goes_listg rfl rfl (.s .z)) rfl (by decide) rfl (q_move rfl (.t (.s16 (.s16 (.s4 (.s4 (.s (.s .z)))))))) ?_
 refine FJ.call (goes_listg rfl rfl (.s (.s .z))) rfl (by decide) rfl (c_call rfl Tryz.func183 rfl rfl (args2 (.t (.s .z)) (.t .z))) .n (fun w1 S1 hs tr => c_183 (tr.own (.s .z)) _) ?_
 rintro _ _ ⟨rfl, rfl⟩
 refine FJ.cat .n ?_
 refine FJ.q (goes_listg rfl rfl (.s (.s (.s .z)))) rfl (by decide) rfl (q_not rfl (.t .z)) ?_
 refine FJ.ql rfl (q_pickT rfl (.t (.s4 .z)) (.t .z)) (FJ.er (.s4 (.s4 (.s .z))) (FJ.ql rfl (q_assign rfl (.t .z)) (FJ.nil (FJ.then_ ?_))))
 refine FJ.condN (.t .z) (fun b40 => ?_) (fun b40 => ?_)
 refine FJ.seq (FJ.region (FJ.ql rfl (q_assign rfl .c) (FJ.nil (FJ.then_ ?_))))
 refine FJ.ret (FJ.inBR (FJ.inBR (FJ.thenR (FJ.thenR ?_))))
 refine FJ.inBR (FJ.thenR ?_)
 refine FJ.doneS (res1 rfl .z) .n ?_
 exact ⟨by first | (rw [linksF_1 (fun hl => by have hk0 := hl k _ hx8; first | (have e := hk0.file (by omega); omega) | (have e := hk0.root (by omega) (by omega); omega) | (have e := hk0.dir (by omega) (by omega); omega) | exact absurd (hk0.way (by omega)) (by assumption))]; done) | (rw [linksF_0 (links_yes (k := k) (by omega) hallk)]; done), rfl⟩
 refine FJ.skip (FJ.inBN (FJ.inBN (FJ.then_ (FJ.region ?_))))
 refine FJ.ql rfl (q_add (c := ((k + 1 : Nat) : Int)) rfl (.t (.s16 (.s16 (.s16 (.s4 (.s (.s .z))))))) .c (wr (by omega) (by omega) (by omega))) ?_
 refine FJ.er (.s16 (.s16 (.s16 (.s4 (.s (.s (.s .z))))))) (FJ.ql rfl (q_move rfl (.t .z)) (FJ.nil ?_))
 refine FJ.again (k + 1) ⟨by omega, all_succ (q := fun j x => LinkOk f j x) hallk hx8 ⟨fun h1 => by first | omega | contradiction, fun h1 h2 => by first | omega | contradiction, fun h1 h2 => by first | omega | contradiction, fun h1 => by first | assumption | contradiction | (exfalso; omega)⟩⟩ (by first | omega | (dsimp only; omega)) (.c .z (.c (.s16 (.s16 (.s16 (.s4 (.s4 .z))))) (.c (.s16 (.s16 (.s16 (.s4 (.s4 (.s .z)))))) (.c (.s16 (.s16 (.s16 (.s4 (.s4 (.s (.s .z))))))) (.c (.s16 (.s16 (.s16 (.s4 (.s4 (.s (.s (.s .z)))))))) .n))))) (fun _ h => h.sel (.c (.s .z) (.c (.s .z) .n)))
 refine FJ.skipl rfl rfl .z rfl rfl (by decide) rfl ?_
 refine FJ.skipl rfl rfl (.s .z) rfl rfl (by decide) rfl ?_
 refine FJ.skipl rfl rfl (.s (.s .z)) rfl rfl (by decide) rfl ?_
 refine FJ.skipl rfl rfl (.s (.s (.s .z))) rfl rfl (by decide) rfl ?_
 refine FJ.ql rfl (q_pickF rfl (.t (.s4 .z)) .c) (FJ.er (.s4 (.s4 (.s .z))) (FJ.ql rfl (q_assign rfl (.t .z)) (FJ.nil (FJ.then_ ?_))))
 refine FJ.condF (.t .z) ?_
 refine FJ.skip (FJ.inBN (FJ.inBN (FJ.then_ (FJ.region ?_))))
 refine FJ.ql rfl (q_add (c := ((k + 1 : Nat) : Int)) rfl (.t (.s16 (.s16 (.s16 (.s4 (.s (.s .z))))))) .c (wr (by omega) (by omega) (by omega))) ?_
 refine FJ.er (.s16 (.s16 (.s16 (.s4 (.s (.s (.s .z))))))) (FJ.ql rfl (q_move rfl (.t .z)) (FJ.nil ?_))
 refine FJ.again (k + 1) ⟨by omega, all_succ (q := fun j x => LinkOk f j x) hallk hx8 ⟨fun h1 => by first | omega | contradiction, fun h1 h2 => by first | omega | contradiction, fun h1 h2 => by first | omega | contradiction, fun h1 => by first | assumption | contradiction | (exfalso; omega)⟩⟩ (by first | omega | (dsimp only; omega)) (.c .z (.c (.s16 (.s16 (.s16 (.s4 (.s4 .z))))) (.c (.s16 (.s16 (.s16 (.s4 (.s4 (.s .z)))))) (.c (.s16 (.s16 (.s16 (.s4 (.s4 (.s (.s .z))))))) (.c (.s16 (.s16 (.s16 (.s4 (.s4 (.s (.s (.s .z)))))))) .n))))) (fun _ h => h.sel (.c (.s .z) (.c (.s .z) .n)))
 refine FJ.exit (FJ.thenE (FJ.thenE (FJ.inB (FJ.then_ ?_))))
 refine FJ.seq (FJ.region (FJ.ql rfl (q_assign rfl .c) (FJ.nil (FJ.then_ ?_))))
 refine FJ.ret ?_
 refine FJ.doneS (res1 rfl .z) .n ?_
 exact ⟨by first | (rw [linksF_0 (links_yes (k := k) (by omega) hallk)]; done), rfl⟩

set_option maxHeartbeats 1000000 in
set_option maxRecDepth 20000 in
theorem c_135 {w0 : World} {S0 : Bs} {f : DFs} {ad0 : Addr} (h0 : PtrRo kT_31 w0 (FF w0 S0) ad0 f) (ht : treeFault f = 0) :
    Calls Tryz.prog 135 #[.pointer (some ad0)] w0 (TriPost w0 S0 (fun r l => r = .bool (decide (LinksOk f)) ∧ l = [])) := by
 obtain ⟨ec0, hF0, hr0, hc0⟩ := id h0
 obtain ⟨u0_0, u0_1, rfl, h0_0, h0_1⟩ := kT_31_ro hr0
 obtain ⟨A0_0, c0_0, rfl, hl0_0, hm0_0, hb0_0, he0_0⟩ := ro_form h0_0
 obtain ⟨A0_1, c0_1, rfl, hl0_1, hm0_1, hb0_1, he0_1⟩ := ro_form h0_1
 have hI := treeI ht
 have hG := treeG ht
 have hL0 := treeL ht
 have h10 := inodes_10 hI
 have hd20 := data_20 ht
 refine FJ.enter (N := 59) Tryz.func135 rfl rfl (by simp) [(0, .pointer (some ad0))] (by simp) (l0 := []) trivial ?_
 refine FJ.seq (FJ.region (FJ.ql rfl (q_assign rfl .c) (FJ.nil (FJ.then_ ?_))))
 refine FJ.seq (FJ.region (FJ.ql rfl (q_move rfl (.t (.s .z))) ?_))
 refine FJ.call (goes_list rfl) rfl (by decide) rfl (c_call rfl Tryz.func175 rfl rfl (args1 (.t .z))) .n (fun w1 S1 hs tr => c_175 (tr.ctxP h0) (by assumption)) ?_
 rintro _ _ rfl
 refine FJ.cat (.c .n) ?_
 refine FJ.know (WS.oform .z) ?_
 rintro ⟨Ao4, co4, rfl, hlo4, hmo4, hbo4⟩
 refine FJ.ql rfl (q_assign rfl (.t .z)) (FJ.nil (FJ.then_ (FJ.seq (FJ.seq ?_))))
 refine FJ.region (FJ.ql rfl (q_assign rfl .c) (FJ.nil (FJ.then_ (FJ.block ?_))))
 refine FJ.loopi (γ := Nat) (fun k => [(4, .int .i64 (k : Int)), (3, .slice Ao4 (reachL (f).inodes 0).length co4), (0, .pointer (some ad0))]) (fun k => [ownA kSl_2 (reachL (f).inodes 0) [.slice Ao4 (reachL (f).inodes 0).length co4]]) (fun k => k ≤ f.inodes.length ∧ ∀ j x, j < k → f.inodes[j]? = some x → LinkOk f j x) (fun k => f.inodes.length - k) 0 ⟨Nat.zero_le _, all_zero (q := fun j x => LinkOk f j x)⟩ (.c .z (.c (.s .z) (.c (.s4 (.s .z)) .n))) (fun _ h => h.sel (.c .z .n)) ?_
 rintro k ⟨hk, hallk⟩
 refine FJ.seq (FJ.seq (FJ.region (FJ.ql rfl (q_move rfl (.t .z)) (FJ.ql rfl (q_move rfl (.t (.s (.s (.s .z))))) ?_))))
 refine FJ.ql rfl (q_nilCheck rfl (.t .z)) (FJ.ql rfl (q_fieldAddr rfl (.t .z) (fun _ => fa_31_0 _ _)) (FJ.ql rfl (q_load rfl ag_29 (.t .z) (WS.el hF0 hc0 rfl)) (FJ.ql rfl (q_len rfl u_29 (.t .z)) (FJ.ql rfl (q_lss rfl (.t (.s4 (.s .z))) (.t .z)) ?_))))
 refine FJ.nil (FJ.then_ ?_)
 refine FJ.condP (.t .z) (fun b5 => ?_) (fun b5 => ?_)
 refine FJ.skip (FJ.then_ (FJ.seq (FJ.block (FJ.seq ?_))))
 refine FJ.region (FJ.ql rfl (q_move rfl (.t (.s4 (.s4 (.s .z))))) (FJ.ql rfl (q_nilCheck rfl (.t .z)) (FJ.ql rfl (q_fieldAddr rfl (.t .z) (fun _ => fa_31_0 _ _)) (FJ.ql rfl (q_load rfl ag_29 (.t .z) (WS.el hF0 hc0 rfl)) ?_))))
 refine FJ.ql rfl (q_move rfl (.t (.s4 (.s4 (.s (.s (.s .z))))))) ?_
 obtain ⟨ad6, hAad6, hrad6⟩ := he0_0 (by omega)
 subst hAad6
 obtain ⟨x7, hx7⟩ := get_ex (xs := f.inodes) (j := k) (by omega)
 obtain ⟨ece8, hre8, hFe8, hce8⟩ := hrad6.elem hx7
 obtain ⟨ue8_3, ue8_4, rfl, he8_3, he8_4⟩ := kT_73_ro hre8
 obtain ⟨Ae8_3, ce8_3, rfl, hle8_3, hme8_3, hbe8_3, hee8_3⟩ := ro_form he8_3
 obtain ⟨Ae8_4, ce8_4, rfl, hle8_4, hme8_4, hbe8_4, hee8_4⟩ := ro_form he8_4
 have kx7 := kind_at (i := ((k : Nat) : Int)) hx7 (by omega)
 have nx7 := ents_at (a := ((k : Nat) : Int)) hx7 (by omega)
 have iox7 := inodes_all hI _ (List.mem_of_getElem? hx7)
 have kkx7 := kind_02 iox7
 refine FJ.ql rfl (q_indexAddr (j := k) rfl u_29 sz_73 (.t (.s .z)) (.t .z) rfl (by omega)) ?_
 refine FJ.ql rfl (q_assign rfl (.t .z)) (FJ.nil (FJ.then_ (FJ.seq (FJ.region ?_))))
 refine FJ.ql rfl (q_move rfl (.t (.s16 .z))) (FJ.ql rfl (q_nilCheck rfl (.t .z)) (FJ.ql rfl (q_fieldAddr rfl (.t .z) (fun _ => fa_31_0 _ _)) (FJ.ql rfl (q_load rfl ag_29 (.t .z) (WS.el hF0 hc0 rfl)) (FJ.ql rfl (q_move rfl (.t (.s16 (.s (.s .z))))) ?_))))
 refine FJ.call (goes_list rfl) rfl (by decide) rfl (c_call rfl Tryz.func176 rfl rfl (args2 (.t (.s .z)) (.t .z))) .n (fun w1 S1 hs tr => c_176 (tr.ctx h0_0) _ (by first | assumption | exact links_60 (by assumption) _ | (simp only [takeF] at *; assumption))) ?_
 rintro _ _ ⟨rfl, rfl⟩
 refine FJ.cat .n ?_
 refine FJ.ql rfl (q_assign rfl (.t .z)) (FJ.nil (FJ.then_ (FJ.seq (FJ.region ?_))))
 refine FJ.ql rfl (q_assign rfl .c) (FJ.nil (FJ.then_ (FJ.seq (FJ.block ?_))))
 refine FJ.seq (FJ.region (FJ.ql rfl (q_move rfl (.t (.s4 (.s4 .z)))) (FJ.ql rfl (q_nilCheck rfl (.t .z)) (FJ.ql rfl (q_fieldAddr rfl (.t .z) (fun _ => fa_73_0 _ _)) ?_))))
 refine FJ.ql rfl (q_load rfl ag_2 (.t .z) (WS.el hFe8 hce8 rfl)) (FJ.ql rfl (q_eql rfl (.t .z) .c) (FJ.ql rfl (q_assign rfl (.t .z)) (FJ.nil (FJ.then_ ?_))))
 refine FJ.condP (.t .z) (fun b11 => ?_) (fun b11 => ?_)
 refine FJ.exit ?_
 refine FJ.inBne (by decide) ?_
 refine FJ.thenE (FJ.inB (FJ.then_ (FJ.region (FJ.ql rfl (q_move rfl (.t (.s16 (.s4 (.s4 (.s4 .z)))))) ?_))))
 refine FJ.ql rfl (q_add (c := ((k + 1 : Nat) : Int)) rfl (.t .z) .c (wr (by omega) (by omega) (by omega))) ?_
 refine FJ.er (.s16 (.s4 (.s4 (.s4 (.s (.s .z)))))) (FJ.ql rfl (q_assign rfl (.t .z)) (FJ.nil ?_))
 refine FJ.again (k + 1) ⟨by omega, all_succ (q := fun j x => LinkOk f j x) hallk hx7 ⟨fun h1 => by first | omega | contradiction, fun h1 h2 => by first | omega | contradiction, fun h1 h2 => by first | omega | contradiction, fun h1 => by first | assumption | contradiction | (exfalso; omega)⟩⟩ (by first | omega | (dsimp only; omega)) (.c .z (.c (.s16 (.s4 (.s4 (.s4 (.s (.s (.s .z))))))) (.c (.s16 (.s16 .z)) .n))) (fun _ h => h.sel (.c .z .n))
 refine FJ.seq (FJ.region (FJ.ql rfl (q_move rfl (.t (.s4 (.s4 (.s4 (.s (.s .z))))))) (FJ.ql rfl (q_nilCheck rfl (.t .z)) (FJ.ql rfl (q_fieldAddr rfl (.t .z) (fun _ => fa_73_0 _ _)) ?_))))
 refine FJ.ql rfl (q_load rfl ag_2 (.t .z) (WS.el hFe8 hce8 rfl)) (FJ.ql rfl (q_eql rfl (.t .z) .c) (FJ.ql rfl (q_assign rfl (.t .z)) (FJ.nil (FJ.then_ ?_))))
 refine FJ.condP (.t .z) (fun b12 => ?_) (fun b12 => ?_)
 refine FJ.region (FJ.ql rfl (q_move rfl (.t (.s16 (.s4 .z)))) (FJ.ql rfl (q_nilCheck rfl (.t .z)) (FJ.ql rfl (q_fieldAddr rfl (.t .z) (fun _ => fa_73_1 _ _)) (FJ.ql rfl (q_load rfl ag_2 (.t .z) (WS.el hFe8 hce8 rfl)) ?_))))
 refine FJ.er (.s16 .z) (FJ.ql rfl (q_assign rfl (.t .z)) (FJ.nil (FJ.inBN (FJ.then_ ?_))))
 refine FJ.seq (FJ.region (FJ.ql rfl (q_move rfl (.t (.s16 (.s .z)))) (FJ.ql rfl (q_move rfl (.t (.s .z))) (FJ.ql rfl (q_neq rfl (.t (.s .z)) (.t .z)) ?_))))
 refine FJ.ql rfl (q_move rfl (.t .z)) ?_
 refine FJ.caseN .z (fun g13 => ?_) (fun g13 => ?_)
 refine FJ.skipl rfl rfl .z rfl rfl (by decide) rfl ?_
 refine FJ.skipl rfl rfl (.s .z) rfl rfl (by decide) rfl ?_
 refine FJ.skipl rfl rfl (.s (.s .z)) rfl rfl (by decide) rfl ?_
 refine FJ.skipl rfl rfl (.s (.s (.s .z))) rfl rfl (by decide) rfl ?_
 refine FJ.ql rfl (q_pickT rfl (.t (.s4 .z)) .c) (FJ.nil (FJ.then_ ?_))
 refine FJ.condT (.t .z) ?_
 refine FJ.seq (FJ.region (FJ.ql rfl (q_assign rfl .c) (FJ.nil (FJ.then_ ?_))))
 refine FJ.ret (FJ.inBR (FJ.thenR (FJ.thenR (FJ.inBR ?_))))
 refine FJ.thenR ?_
 refine FJ.doneS (res1 rfl .z) .n ?_
 exact ⟨by first | (rw [decide_eq_true (links_yes (k := k) (by omega) hallk)]; done) | (rw [decide_eq_false (fun hl => by have hk0 := hl k _ hx7; first | (have e := hk0.file (by omega); omega) | (have e := hk0.root (by omega) (by omega); omega) | (have e := hk0.dir (by omega) (by omega); omega) | exact absurd (hk0.way (by omega)) (by assumption))]; done), rfl⟩
 refine FJ.q (goes_listg rfl rfl .z) rfl (by decide) rfl (q_move rfl (.t (.s16 (.s16 (.s4 (.s4 (.s (.s (.s .z))))))))) ?_
 refine FJ.q (goes_listg rfl rfl (.s .z)) rfl (by decide) rfl (q_move rfl (.t (.s16 (.s16 (.s4 (.s4 (.s (.s (.s .z))))))))) ?_
 refine FJ.call (goes_listg rfl rfl (.s (.s .z))) rfl (by decide) rfl (c_call rfl Tryz.func177 rfl rfl (args2 (.t (.s .z)) (.t .z))) .n (fun w1 S1 hs tr => c_177 (tr.own .z) _) ?_
 rintro _ _ ⟨rfl, rfl⟩
 refine FJ.cat .n ?_
 refine FJ.q (goes_listg rfl rfl (.s (.s (.s .z)))) rfl (by decide) rfl (q_not rfl (.t .z)) ?_
 refine FJ.ql rfl (q_pickF rfl (.t (.s4 .z)) (.t .z)) (FJ.nil (FJ.then_ ?_))
 refine FJ.condN (.t .z) (fun b14 => ?_) (fun b14 => ?_)
 refine FJ.seq (FJ.region (FJ.ql rfl (q_assign rfl .c) (FJ.nil (FJ.then_ ?_))))
 refine FJ.ret (FJ.inBR (FJ.thenR (FJ.thenR (FJ.inBR ?_))))
 refine FJ.thenR ?_
 refine FJ.doneS (res1 rfl .z) .n ?_
 exact ⟨by first | (rw [decide_eq_true (links_yes (k := k) (by omega) hallk)]; done) | (rw [decide_eq_false (fun hl => by have hk0 := hl k _ hx7; first | (have e := hk0.file (by omega); omega) | (have e := hk0.root (by omega) (by omega); omega) | (have e := hk0.dir (by omega) (by omega); omega) | exact absurd (hk0.way (by omega)) (by assumption))]; done), rfl⟩
 refine FJ.skip (FJ.inBN (FJ.then_ (FJ.region (FJ.ql rfl (q_move rfl (.t (.s16 (.s16 (.s4 (.s4 (.s4 (.s (.s (.s .z)))))))))) ?_))))
 refine FJ.ql rfl (q_add (c := ((k + 1 : Nat) : Int)) rfl (.t .z) .c (wr (by omega) (by omega) (by omega))) ?_
 refine FJ.er (.s16 (.s16 (.s16 (.s .z)))) (FJ.ql rfl (q_assign rfl (.t .z)) (FJ.nil ?_))
 refine FJ.again (k + 1) ⟨by omega, all_succ (q := fun j x => LinkOk f j x) hallk hx7 ⟨fun h1 => by first | omega | contradiction, fun h1 h2 => by first | omega | contradiction, fun h1 h2 => by first | omega | contradiction, fun h1 => by first | assumption | contradiction | (exfalso; omega)⟩⟩ (by first | omega | (dsimp only; omega)) (.c .z (.c (.s16 (.s16 (.s16 (.s (.s .z))))) (.c (.s16 (.s16 (.s16 (.s (.s (.s .z)))))) .n))) (fun _ h => h.sel (.c .z .n))
 refine FJ.seq (FJ.region (FJ.ql rfl (q_move rfl (.t (.s16 (.s16 (.s (.s .z)))))) (FJ.ql rfl (q_eql rfl (.t .z) .c) (FJ.ql rfl (q_assign rfl (.t .z)) ?_))))
 refine FJ.nil (FJ.then_ ?_)
 refine FJ.condP (.t .z) (fun b15 => ?_) (fun b15 => ?_)
 refine FJ.region (FJ.er (.s4 (.s4 (.s4 (.s (.s (.s .z)))))) (FJ.ql rfl (q_assign rfl .c) (FJ.nil (FJ.inBN ?_))))
 refine FJ.then_ (FJ.seq (FJ.region (FJ.ql rfl (q_move rfl (.t (.s16 .z))) (FJ.ql rfl (q_move rfl (.t (.s .z))) ?_))))
 refine FJ.ql rfl (q_neq rfl (.t (.s .z)) (.t .z)) (FJ.ql rfl (q_move rfl (.t .z)) ?_)
 refine FJ.caseN .z (fun g16 => ?_) (fun g16 => ?_)
 refine FJ.skipl rfl rfl .z rfl rfl (by decide) rfl ?_
 refine FJ.skipl rfl rfl (.s .z) rfl rfl (by decide) rfl ?_
 refine FJ.skipl rfl rfl (.s (.s .z)) rfl rfl (by decide) rfl ?_
 refine FJ.skipl rfl rfl (.s (.s (.s .z))) rfl rfl (by decide) rfl ?_
 refine FJ.ql rfl (q_pickT rfl (.t (.s4 .z)) .c) (FJ.nil (FJ.then_ ?_))
 refine FJ.condT (.t .z) ?_
 refine FJ.seq (FJ.region (FJ.ql rfl (q_assign rfl .c) (FJ.nil (FJ.then_ ?_))))
 refine FJ.ret (FJ.inBR (FJ.thenR (FJ.thenR (FJ.inBR ?_))))
 refine FJ.thenR ?_
 refine FJ.doneS (res1 rfl .z) .n ?_
 exact ⟨by first | (rw [decide_eq_true (links_yes (k := k) (by omega) hallk)]; done) | (rw [decide_eq_false (fun hl => by have hk0 := hl k _ hx7; first | (have e := hk0.file (by omega); omega) | (have e := hk0.root (by omega) (by omega); omega) | (have e := hk0.dir (by omega) (by omega); omega) | exact absurd (hk0.way (by omega)) (by assumption))]; done), rfl⟩
 refine FJ.q (goes_listg rfl rfl .z) rfl (by decide) rfl (q_move rfl (.t (.s16 (.s16 (.s4 (.s4 (.s (.s .z)))))))) ?_
 refine FJ.q (goes_listg rfl rfl (.s .z)) rfl (by decide) rfl (q_move rfl (.t (.s16 (.s16 (.s4 (.s4 (.s (.s .z)))))))) ?_
 refine FJ.call (goes_listg rfl rfl (.s (.s .z))) rfl (by decide) rfl (c_call rfl Tryz.func177 rfl rfl (args2 (.t (.s .z)) (.t .z))) .n (fun w1 S1 hs tr => c_177 (tr.own .z) _) ?_
 rintro _ _ ⟨rfl, rfl⟩
 refine FJ.cat .n ?_
 refine FJ.q (goes_listg rfl rfl (.s (.s (.s .z)))) rfl (by decide) rfl (q_not rfl (.t .z)) ?_
 refine FJ.ql rfl (q_pickF rfl (.t (.s4 .z)) (.t .z)) (FJ.nil (FJ.then_ ?_))
 refine FJ.condN (.t .z) (fun b17 => ?_) (fun b17 => ?_)
 refine FJ.seq (FJ.region (FJ.ql rfl (q_assign rfl .c) (FJ.nil (FJ.then_ ?_))))
 refine FJ.ret (FJ.inBR (FJ.thenR (FJ.thenR (FJ.inBR ?_))))
 refine FJ.thenR ?_
 refine FJ.doneS (res1 rfl .z) .n ?_
 exact ⟨by first | (rw [decide_eq_true (links_yes (k := k) (by omega) hallk)]; done) | (rw [decide_eq_false (fun hl => by have hk0 := hl k _ hx7; first | (have e := hk0.file (by omega); omega) | (have e := hk0.root (by omega) (by omega); omega) | (have e := hk0.dir (by omega) (by omega); omega) | exact absurd (hk0.way (by omega)) (by assumption))]; done), rfl⟩
 refine FJ.skip (FJ.inBN (FJ.then_ (FJ.region (FJ.ql rfl (q_move rfl (.t (.s16 (.s16 (.s4 (.s4 (.s4 (.s (.s .z))))))))) ?_))))
 refine FJ.ql rfl (q_add (c := ((k + 1 : Nat) : Int)) rfl (.t .z) .c (wr (by omega) (by omega) (by omega))) ?_
 refine FJ.er (.s16 (.s16 (.s16 .z))) (FJ.ql rfl (q_assign rfl (.t .z)) (FJ.nil ?_))
 refine FJ.again (k + 1) ⟨by omega, all_succ (q := fun j x => LinkOk f j x) hallk hx7 ⟨fun h1 => by first | omega | contradiction, fun h1 h2 => by first | omega | contradiction, fun h1 h2 => by first | omega | contradiction, fun h1 => by first | assumption | contradiction | (exfalso; omega)⟩⟩ (by first | omega | (dsimp only; omega)) (.c .z (.c (.s16 (.s16 (.s16 (.s .z)))) (.c (.s16 (.s16 (.s16 (.s (.s .z))))) .n))) (fun _ h => h.sel (.c .z .n))
 refine FJ.skip (FJ.inBN (FJ.then_ (FJ.seq (FJ.region ?_))))
 refine FJ.ql rfl (q_move rfl (.t (.s16 .z))) (FJ.ql rfl (q_move rfl (.t (.s16 .z))) (FJ.ql rfl (q_neq rfl (.t (.s .z)) (.t .z)) (FJ.ql rfl (q_move rfl (.t .z)) ?_)))
 refine FJ.caseN .z (fun g18 => ?_) (fun g18 => ?_)
 refine FJ.skipl rfl rfl .z rfl rfl (by decide) rfl ?_
 refine FJ.skipl rfl rfl (.s .z) rfl rfl (by decide) rfl ?_
 refine FJ.skipl rfl rfl (.s (.s .z)) rfl rfl (by decide) rfl ?_
 refine FJ.skipl rfl rfl (.s (.s (.s .z))) rfl rfl (by decide) rfl ?_
 refine FJ.ql rfl (q_pickT rfl (.t (.s4 .z)) .c) (FJ.nil (FJ.then_ ?_))
 refine FJ.condT (.t .z) ?_
 refine FJ.seq (FJ.region (FJ.ql rfl (q_assign rfl .c) (FJ.nil (FJ.then_ ?_))))
 refine FJ.ret (FJ.inBR (FJ.thenR (FJ.thenR (FJ.inBR ?_))))
 refine FJ.thenR ?_
 refine FJ.doneS (res1 rfl .z) .n ?_
 exact ⟨by first | (rw [decide_eq_true (links_yes (k := k) (by omega) hallk)]; done) | (rw [decide_eq_false (fun hl => by have hk0 := hl k _ hx7; first | (have e := hk0.file (by omega); omega) | (have e := hk0.root (by omega) (by omega); omega) | (have e := hk0.dir (by omega) (by omega); omega) | exact absurd (hk0.way (by omega)) (by assumption))]; done), rfl⟩
 refine FJ.q (goes_listg rfl rfl .z) rfl (by decide) rfl (q_move rfl (.t (.s16 (.s16 (.s4 (.s4 (.s (.s .z)))))))) ?_
 refine FJ.q (goes_listg rfl rfl (.s .z)) rfl (by decide) rfl (q_move rfl (.t (.s16 (.s16 (.s4 (.s4 (.s (.s .z)))))))) ?_
 refine FJ.call (goes_listg rfl rfl (.s (.s .z))) rfl (by decide) rfl (c_call rfl Tryz.func177 rfl rfl (args2 (.t (.s .z)) (.t .z))) .n (fun w1 S1 hs tr => c_177 (tr.own .z) _) ?_
 rintro _ _ ⟨rfl, rfl⟩
 refine FJ.cat .n ?_
 refine FJ.q (goes_listg rfl rfl (.s (.s (.s .z)))) rfl (by decide) rfl (q_not rfl (.t .z)) ?_
 refine FJ.ql rfl (q_pickF rfl (.t (.s4 .z)) (.t .z)) (FJ.nil (FJ.then_ ?_))
 refine FJ.condN (.t .z) (fun b19 => ?_) (fun b19 => ?_)
 refine FJ.seq (FJ.region (FJ.ql rfl (q_assign rfl .c) (FJ.nil (FJ.then_ ?_))))
 refine FJ.ret (FJ.inBR (FJ.thenR (FJ.thenR (FJ.inBR ?_))))
 refine FJ.thenR ?_
 refine FJ.doneS (res1 rfl .z) .n ?_
 exact ⟨by first | (rw [decide_eq_true (links_yes (k := k) (by omega) hallk)]; done) | (rw [decide_eq_false (fun hl => by have hk0 := hl k _ hx7; first | (have e := hk0.file (by omega); omega) | (have e := hk0.root (by omega) (by omega); omega) | (have e := hk0.dir (by omega) (by omega); omega) | exact absurd (hk0.way (by omega)) (by assumption))]; done), rfl⟩
 refine FJ.skip (FJ.inBN (FJ.then_ (FJ.region (FJ.ql rfl (q_move rfl (.t (.s16 (.s16 (.s4 (.s4 (.s4 (.s (.s .z))))))))) ?_))))
 refine FJ.ql rfl (q_add (c := ((k + 1 : Nat) : Int)) rfl (.t .z) .c (wr (by omega) (by omega) (by omega))) ?_
 refine FJ.er (.s16 (.s16 (.s16 .z))) (FJ.ql rfl (q_assign rfl (.t .z)) (FJ.nil ?_))
 refine FJ.again (k + 1) ⟨by omega, all_succ (q := fun j x => LinkOk f j x) hallk hx7 ⟨fun h1 => by first | omega | contradiction, fun h1 h2 => by first | omega | contradiction, fun h1 h2 => by first | omega | contradiction, fun h1 => by first | assumption | contradiction | (exfalso; omega)⟩⟩ (by first | omega | (dsimp only; omega)) (.c .z (.c (.s16 (.s16 (.s16 (.s .z)))) (.c (.s16 (.s16 (.s16 (.s (.s .z))))) .n))) (fun _ h => h.sel (.c .z .n))
 refine FJ.exit (FJ.thenE (FJ.thenE (FJ.inB (FJ.then_ ?_))))
 refine FJ.seq (FJ.region (FJ.ql rfl (q_assign rfl .c) (FJ.nil (FJ.then_ ?_))))
 refine FJ.ret ?_
 refine FJ.doneS (res1 rfl .z) .n ?_
 exact ⟨by first | (rw [decide_eq_true (links_yes (k := k) (by omega) hallk)]; done), rfl⟩

end Go.Proofs.YticaddophhggoaaGreat

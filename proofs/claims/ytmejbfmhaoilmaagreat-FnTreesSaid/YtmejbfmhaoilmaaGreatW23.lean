/- What is proved: contracts of functions, one a function. No condition. -/
import Derived.Test.YtmejbfmhaoilmaaGreatBase1
import Derived.Test.YtmejbfmhaoilmaaGreatW22
import Derived.Test.YtmejbfmhaoilmaaGreatW9
namespace Go.Proofs.YtmejbfmhaoilmaaGreat
open Go Go.RowKit
set_option linter.unusedVariables false
set_option linter.unusedSimpArgs false
set_option maxHeartbeats 1000000
set_option maxRecDepth 20000
theorem c_100 {w0 : World} {S0 : Bs} {f : DFs} {a1 : List Value} (h0 : kT_27.ro w0 (FF w0 S0) f a1) (ht : treeFault f = 0) :
    Calls Tryz.prog 100 #[.agg a1.toArray] w0 (TriPost w0 S0 (fun r l => r = .int .i64 (linksF f) ∧ l = [])) := by
 obtain ⟨bh, bi, rfl, ae, am⟩ := kT_27_ro h0
 obtain ⟨ac, ad, rfl, a2, a3, a4, ah⟩ := ro_form ae
 obtain ⟨af, ag, rfl, a5, a6, a7, a8⟩ := ro_form am
 have hI := treeI ht
 have hG := treeG ht
 have b4 := treeL ht
 have b5 := inodes_10 hI
 have bj := data_20 ht
 refine Y.enter (N := 66) Tryz.func100 rfl rfl (by simp) [(0, .agg #[.slice ac f.inodes.length ad, .slice af f.data.length ag])] (by simp) (l0 := []) trivial ?_
 refine Y.seq (Y.region ?_)
 refine Y.el rfl (e_box (cs := [.slice ac f.inodes.length ad, .slice af f.data.length ag]) (n := 2) rfl (.t .z) rfl rfl) ?_
 rintro _ _ ⟨g3, rfl, rfl⟩
 refine Y.ql rfl (q_assign rfl .c) (Y.nt (Y.seq (Y.region (Y.fa rfl .g1 fa_27_0 (Y.ld rfl ag_24 .z .z ?_)))))
 refine Y.cl rfl rfl Tryz.func51 rfl rfl (args2 (.t .z) .c) .n (fun _ _ hs tr => c_51 (tr.ctx ae) _ (treeI (by assumption)) (treeG (by assumption)) (by constructor <;> first | omega | (have := treeL (by assumption); omega))) ?_
 rintro _ _ rfl
 refine Y.cat (.c .n) ?_
 refine Y.know (WS.oform .z) ?_
 rintro ⟨a9, ba, rfl, bk, bm, bn⟩
 refine Y.as rfl .z (Y.nt (Y.seq (Y.seq (Y.region (Y.fa rfl .g5 fa_27_0 (Y.ld rfl ag_24 .z .g1 (Y.ql rfl (q_len rfl u_24 (.t .z)) ?_)))))))
 refine Y.ql rfl (q_move rfl .c) (Y.nt (Y.block ?_))
 refine Y.loopi (γ := Nat) (fun k => [(14, .int .i64 (k : Int)), (13, .int .i64 (f.inodes.length : Int)), (12, .slice ac f.inodes.length ad), (3, .slice a9 (reachL f.inodes (Int.toNat 0)).length ba), (1, .pointer (some ⟨g3, 0, none⟩))]) (fun k => [ownA kSl_2 (reachL f.inodes (Int.toNat 0)) [.slice a9 (reachL f.inodes (Int.toNat 0)).length ba], rowA g3 27 2 1 [.slice ac f.inodes.length ad, .slice af f.data.length ag]]) (fun k => k ≤ f.inodes.length ∧ ∀ j x, j < k → f.inodes[j]? = some x → LinkOk f j x) (fun k => f.inodes.length - k) 0 ⟨Nat.zero_le _, all_zero (q := fun j x => LinkOk f j x)⟩ (.c .z (.c .g1 (.c .g2 (.c .g4 (.c .g9 .n))))) (fun _ h => h.sel (.c .z (.c .z .n))) ?_
 rintro k ⟨hk, hallk⟩
 refine Y.seq (Y.region (Y.ql rfl (q_lss rfl (.t .z) (.t .g1)) (Y.nt (Y.seq ?_))))
 refine Y.condP (.t .z) (fun b6 => ?_) (fun b6 => ?_)
 refine Y.skip (Y.then_ (Y.seq (Y.block (Y.seq (Y.region (Y.mv rfl .g1 ?_))))))
 obtain ⟨b7, ai, aj⟩ := ah (by omega)
 subst ai
 obtain ⟨x8, ab⟩ := get_ex (xs := f.inodes) (j := k) (by omega)
 obtain ⟨bo, an, ao, ap⟩ := aj.elem ab
 obtain ⟨bb, bc, rfl, ak, al⟩ := kT_44_ro an
 obtain ⟨bd, be, rfl, aq, ar, au, av⟩ := ro_form ak
 obtain ⟨bf, bg, rfl, aw, ax, ay, az⟩ := ro_form al
 have b8 := kind_at (i := ((k : Nat) : Int)) ab (by omega)
 have b9 := ents_at (a := ((k : Nat) : Int)) ab (by omega)
 have a0 := inodes_all hI _ (List.mem_of_getElem? ab)
 have bp := kind_02 a0
 refine Y.ql rfl (q_indexAddr (j := k) rfl u_24 sz_44 (.t .g4) (.t .g2) rfl (by omega)) ?_
 refine Y.ql rfl (qE rfl ag_44 (.t .z) ao ap sz_44) ?_
 refine Y.el rfl (e_alloc rfl z_44 rfl rfl) ?_
 rintro _ _ ⟨g12, rfl, rfl⟩
 refine Y.as rfl .g3 ?_
 refine Y.es (goes_list rfl) rfl (esW rfl (.t .g1) (.t .g2) .z sz_44 rfl rfl) ?_
 refine Y.nt (Y.seq (Y.region (Y.mv rfl .z (Y.as rfl .z (Y.nt (Y.seq ?_))))))
 refine Y.region (Y.fa rfl .g12 fa_27_0 (Y.ld rfl ag_24 .z .g2 (Y.mv rfl .g2 ?_)))
 refine Y.cl rfl rfl Tryz.func86 rfl rfl (args2 (.t .g1) (.t .z)) .n (fun _ _ hs tr => c_86 (tr.ctx ae) _ (by first | assumption | exact links_60 (by assumption) _ | (simp only [takeF] at *; assumption))) ?_
 rintro _ _ ⟨rfl, rfl⟩
 refine Y.cat .n ?_
 refine Y.as rfl .z (Y.nt (Y.block (Y.seq (Y.seq (Y.region (Y.fa rfl .g8 fa_44_0 (Y.ld rfl ag_2 .z .z ?_)))))))
 refine Y.ql rfl (q_eql rfl (.t .z) .c) (Y.mv rfl .z ?_)
 refine Y.caseP .z (fun g13 => ?_) (fun g13 => ?_)
 refine Y.qg rfl rfl .z rfl rfl rfl (q_fieldAddr rfl (.t .g12) (fun _ => fa_44_1 _ _)) ?_
 refine Y.qg rfl rfl .g1 rfl rfl rfl (q_load rfl ag_2 (.t .z) (WS.row .z rfl)) ?_
 refine Y.qg rfl rfl .g2 rfl rfl rfl (q_move rfl (.t .g6)) ?_
 refine Y.qg rfl rfl .g3 rfl rfl rfl (q_neq rfl (.t .g1) (.t .z)) ?_
 refine Y.ql rfl (q_pickT rfl (.t .g4) (.t .z)) (Y.as rfl .z (Y.nt ?_))
 refine Y.condN (.t .z) (fun bq => ?_) (fun bq => ?_)
 refine Y.skip (Y.then_ ?_)
 refine Y.condN (.t .z) (fun br => ?_) (fun br => ?_)
 refine Y.seq (Y.region (Y.ql rfl (q_assign rfl .c) (Y.nt (Y.ret (Y.inBR (Y.inBR (Y.thenR ?_)))))))
 refine Y.thenR (Y.inBR (Y.thenR ?_))
 refine Y.doneS (res1 rfl .z) .n ?_
 exact ⟨by first | (rw [linksF_1 (fun hl => by have aa := hl k _ ab; first | (have e := aa.file (by omega); omega) | (have e := aa.root (by omega) (by omega); omega) | (have e := aa.dir (by omega) (by omega); omega) | exact absurd (aa.way (by omega)) (by assumption))]; done) | (rw [linksF_0 (links_yes (k := k) (by omega) hallk)]; done), rfl⟩
 exfalso; first | omega | contradiction
 refine Y.seq (Y.region (Y.fa rfl (.s16 .g2) fa_44_0 (Y.ld rfl ag_2 .z .z (Y.ql rfl (q_eql rfl (.t .z) .c) (Y.mv rfl .z ?_)))))
 refine Y.caseP .z (fun g16 => ?_) (fun g16 => ?_)
 exfalso; first | omega | contradiction
 refine Y.skipl rfl rfl .z rfl rfl (by decide) rfl ?_
 refine Y.skipl rfl rfl .g1 rfl rfl (by decide) rfl ?_
 refine Y.ql rfl (q_pickF rfl (.t .g2) .c) (Y.mv rfl .z ?_)
 refine Y.skipl rfl rfl .z rfl rfl (by decide) rfl ?_
 refine Y.skipl rfl rfl .g1 rfl rfl (by decide) rfl ?_
 refine Y.ql rfl (q_pickF rfl (.t .g2) .c) (Y.er .g11 (Y.as rfl .z (Y.nt ?_)))
 refine Y.condF (.t .z) ?_
 refine Y.seq (Y.region (Y.fa rfl (.s16 .g13) fa_44_0 (Y.ld rfl ag_2 .z .z (Y.ql rfl (q_eql rfl (.t .z) .c) (Y.mv rfl .z ?_)))))
 refine Y.caseP .z (fun g17 => ?_) (fun g17 => ?_)
 exfalso; first | omega | contradiction
 refine Y.skipl rfl rfl .z rfl rfl (by decide) rfl ?_
 refine Y.skipl rfl rfl .g1 rfl rfl (by decide) rfl ?_
 refine Y.ql rfl (q_pickF rfl (.t .g2) .c) (Y.mv rfl .z ?_)
 refine Y.skipl rfl rfl .z rfl rfl (by decide) rfl ?_
 refine Y.skipl rfl rfl .g1 rfl rfl (by decide) rfl ?_
 refine Y.ql rfl (q_pickF rfl (.t .g2) .c) (Y.er .g11 (Y.as rfl .z (Y.nt ?_)))
 refine Y.condF (.t .z) ?_
 refine Y.region (Y.fa rfl (.s16 (.s16 .g8)) fa_44_0 (Y.ld rfl ag_2 .z .z (Y.ql rfl (q_neq rfl (.t .z) .c) (Y.mv rfl .z ?_))))
 refine Y.caseN .z (fun g18 => ?_) (fun g18 => ?_)
 refine Y.qg rfl rfl .z rfl rfl rfl (q_move rfl (.t (.s16 (.s16 (.s16 .g4))))) ?_
 refine Y.qg rfl rfl .g1 rfl rfl rfl (q_move rfl (.t (.s16 (.s16 .g10)))) ?_
 refine Y.call (goes_listg rfl rfl .g2) rfl (by decide) rfl (c_call rfl Tryz.func140 rfl rfl (args2 (.t .g1) (.t .z))) .n (fun _ _ hs tr => c_140 (tr.own .g1) _) ?_
 rintro _ _ ⟨rfl, rfl⟩
 refine Y.cat .n ?_
 refine Y.qg rfl rfl .g3 rfl rfl rfl (q_not rfl (.t .z)) ?_
 refine Y.ql rfl (q_pickT rfl (.t .g4) (.t .z)) (Y.er .g9 (Y.as rfl .z (Y.nt ?_)))
 refine Y.condN (.t .z) (fun bs => ?_) (fun bs => ?_)
 refine Y.seq (Y.region (Y.ql rfl (q_assign rfl .c) (Y.nt (Y.ret (Y.inBR (Y.inBR (Y.thenR ?_)))))))
 refine Y.thenR (Y.inBR (Y.thenR ?_))
 refine Y.doneS (res1 rfl .z) .n ?_
 exact ⟨by first | (rw [linksF_1 (fun hl => by have aa := hl k _ ab; first | (have e := aa.file (by omega); omega) | (have e := aa.root (by omega) (by omega); omega) | (have e := aa.dir (by omega) (by omega); omega) | exact absurd (aa.way (by omega)) (by assumption))]; done) | (rw [linksF_0 (links_yes (k := k) (by omega) hallk)]; done), rfl⟩
 refine Y.skip (Y.inBN (Y.inBN (Y.then_ (Y.region ?_))))
 refine Y.ql rfl (q_add (c := ((k + 1 : Nat) : Int)) rfl (.t (.s16 (.s16 (.s16 .g6)))) .c (wr (by omega) (by omega) (by omega))) ?_
 refine Y.er (.s16 (.s16 (.s16 .g7))) (Y.mv rfl .z (Y.nil ?_))
 refine Y.again (k + 1) ⟨by omega, all_succ (q := fun j x => LinkOk f j x) hallk ab ⟨fun h1 => by first | omega | contradiction, fun h1 h2 => by first | omega | contradiction, fun h1 h2 => by first | omega | contradiction, fun h1 => by first | assumption | contradiction | (exfalso; omega)⟩⟩ (by first | omega | (dsimp only; omega)) (.c .z (.c (.s16 (.s16 (.s16 .g8))) (.c (.s16 (.s16 (.s16 .g9))) (.c (.s16 (.s16 (.s16 .g10))) (.c (.s16 (.s16 (.s16 .g11))) .n))))) (fun _ h => h.sel (.c .g1 (.c .g1 .n)))
 exfalso; first | omega | contradiction
 refine Y.skipl rfl rfl .z rfl rfl (by decide) rfl ?_
 refine Y.skipl rfl rfl .g1 rfl rfl (by decide) rfl ?_
 refine Y.skipl rfl rfl .g2 rfl rfl (by decide) rfl ?_
 refine Y.skipl rfl rfl .g3 rfl rfl (by decide) rfl ?_
 refine Y.ql rfl (q_pickF rfl (.t .g4) .c) (Y.as rfl .z (Y.nt ?_))
 refine Y.condF (.t .z) ?_
 refine Y.seq (Y.region (Y.fa rfl (.s16 .g2) fa_44_0 (Y.ld rfl ag_2 .z .z (Y.ql rfl (q_eql rfl (.t .z) .c) (Y.mv rfl .z ?_)))))
 refine Y.caseP .z (fun g20 => ?_) (fun g20 => ?_)
 refine Y.qg rfl rfl .z rfl rfl rfl (q_move rfl (.t (.s16 .g3))) ?_
 refine Y.qg rfl rfl .g1 rfl rfl rfl (q_eql rfl (.t .z) .c) ?_
 refine Y.ql rfl (q_pickT rfl (.t .g2) (.t .z)) (Y.mv rfl .z ?_)
 refine Y.caseP .z (fun g21 => ?_) (fun g21 => ?_)
 refine Y.qg rfl rfl .z rfl rfl rfl (q_move rfl (.t (.s16 .g2))) ?_
 refine Y.qg rfl rfl .g1 rfl rfl rfl (q_neq rfl (.t .z) .c) ?_
 refine Y.ql rfl (q_pickT rfl (.t .g2) (.t .z)) (Y.er .g11 (Y.as rfl .z (Y.nt ?_)))
 refine Y.condN (.t .z) (fun bt => ?_) (fun bt => ?_)
 refine Y.skip (Y.then_ ?_)
 refine Y.condN (.t .z) (fun bu => ?_) (fun bu => ?_)
 refine Y.seq (Y.region (Y.ql rfl (q_assign rfl .c) (Y.nt (Y.ret (Y.inBR (Y.inBR (Y.thenR ?_)))))))
 refine Y.thenR (Y.inBR (Y.thenR ?_))
 refine Y.doneS (res1 rfl .z) .n ?_
 exact ⟨by first | (rw [linksF_1 (fun hl => by have aa := hl k _ ab; first | (have e := aa.file (by omega); omega) | (have e := aa.root (by omega) (by omega); omega) | (have e := aa.dir (by omega) (by omega); omega) | exact absurd (aa.way (by omega)) (by assumption))]; done) | (rw [linksF_0 (links_yes (k := k) (by omega) hallk)]; done), rfl⟩
 exfalso; first | omega | contradiction
 refine Y.seq (Y.region (Y.fa rfl (.s16 .g13) fa_44_0 (Y.ld rfl ag_2 .z .z (Y.ql rfl (q_eql rfl (.t .z) .c) (Y.mv rfl .z ?_)))))
 refine Y.caseP .z (fun g24 => ?_) (fun g24 => ?_)
 refine Y.qg rfl rfl .z rfl rfl rfl (q_move rfl (.t (.s16 .g14))) ?_
 refine Y.qg rfl rfl .g1 rfl rfl rfl (q_gtr rfl (.t .z) .c) ?_
 refine Y.ql rfl (q_pickT rfl (.t .g2) (.t .z)) (Y.mv rfl .z ?_)
 refine Y.caseP .z (fun g25 => ?_) (fun g25 => ?_)
 refine Y.qg rfl rfl .z rfl rfl rfl (q_move rfl (.t (.s16 .g13))) ?_
 refine Y.qg rfl rfl .g1 rfl rfl rfl (q_neq rfl (.t .z) .c) ?_
 refine Y.ql rfl (q_pickT rfl (.t .g2) (.t .z)) (Y.er .g11 (Y.as rfl .z (Y.nt ?_)))
 refine Y.condN (.t .z) (fun bv => ?_) (fun bv => ?_)
 refine Y.skip (Y.then_ ?_)
 refine Y.condN (.t .z) (fun bw => ?_) (fun bw => ?_)
 refine Y.seq (Y.region (Y.ql rfl (q_assign rfl .c) (Y.nt (Y.ret (Y.inBR (Y.inBR (Y.thenR ?_)))))))
 refine Y.thenR (Y.inBR (Y.thenR ?_))
 refine Y.doneS (res1 rfl .z) .n ?_
 exact ⟨by first | (rw [linksF_1 (fun hl => by have aa := hl k _ ab; first | (have e := aa.file (by omega); omega) | (have e := aa.root (by omega) (by omega); omega) | (have e := aa.dir (by omega) (by omega); omega) | exact absurd (aa.way (by omega)) (by assumption))]; done) | (rw [linksF_0 (links_yes (k := k) (by omega) hallk)]; done), rfl⟩
 exfalso; first | omega | contradiction
 exfalso; first | omega | contradiction
 refine Y.skipl rfl rfl .z rfl rfl (by decide) rfl ?_
 refine Y.skipl rfl rfl .g1 rfl rfl (by decide) rfl ?_
 refine Y.ql rfl (q_pickF rfl (.t .g2) .c) (Y.er .g11 (Y.as rfl .z (Y.nt ?_)))
 refine Y.condF (.t .z) ?_
 refine Y.region (Y.fa rfl (.s16 (.s16 .g8)) fa_44_0 (Y.ld rfl ag_2 .z .z (Y.ql rfl (q_neq rfl (.t .z) .c) (Y.mv rfl .z ?_))))
 refine Y.caseN .z (fun g28 => ?_) (fun g28 => ?_)
 refine Y.qg rfl rfl .z rfl rfl rfl (q_move rfl (.t (.s16 (.s16 (.s16 .g4))))) ?_
 refine Y.qg rfl rfl .g1 rfl rfl rfl (q_move rfl (.t (.s16 (.s16 .g10)))) ?_
 refine Y.call (goes_listg rfl rfl .g2) rfl (by decide) rfl (c_call rfl Tryz.func140 rfl rfl (args2 (.t .g1) (.t .z))) .n (fun _ _ hs tr => c_140 (tr.own .g1) _) ?_
 rintro _ _ ⟨rfl, rfl⟩
 refine Y.cat .n ?_
 refine Y.qg rfl rfl .g3 rfl rfl rfl (q_not rfl (.t .z)) ?_
 refine Y.ql rfl (q_pickT rfl (.t .g4) (.t .z)) (Y.er .g9 (Y.as rfl .z (Y.nt ?_)))
 refine Y.condN (.t .z) (fun bx => ?_) (fun bx => ?_)
 refine Y.seq (Y.region (Y.ql rfl (q_assign rfl .c) (Y.nt (Y.ret (Y.inBR (Y.inBR (Y.thenR ?_)))))))
 refine Y.thenR (Y.inBR (Y.thenR ?_))
 refine Y.doneS (res1 rfl .z) .n ?_
 exact ⟨by first | (rw [linksF_1 (fun hl => by have aa := hl k _ ab; first | (have e := aa.file (by omega); omega) | (have e := aa.root (by omega) (by omega); omega) | (have e := aa.dir (by omega) (by omega); omega) | exact absurd (aa.way (by omega)) (by assumption))]; done) | (rw [linksF_0 (links_yes (k := k) (by omega) hallk)]; done), rfl⟩
 refine Y.skip (Y.inBN (Y.inBN (Y.then_ (Y.region ?_))))
 refine Y.ql rfl (q_add (c := ((k + 1 : Nat) : Int)) rfl (.t (.s16 (.s16 (.s16 .g6)))) .c (wr (by omega) (by omega) (by omega))) ?_
 refine Y.er (.s16 (.s16 (.s16 .g7))) (Y.mv rfl .z (Y.nil ?_))
 refine Y.again (k + 1) ⟨by omega, all_succ (q := fun j x => LinkOk f j x) hallk ab ⟨fun h1 => by first | omega | contradiction, fun h1 h2 => by first | omega | contradiction, fun h1 h2 => by first | omega | contradiction, fun h1 => by first | assumption | contradiction | (exfalso; omega)⟩⟩ (by first | omega | (dsimp only; omega)) (.c .z (.c (.s16 (.s16 (.s16 .g8))) (.c (.s16 (.s16 (.s16 .g9))) (.c (.s16 (.s16 (.s16 .g10))) (.c (.s16 (.s16 (.s16 .g11))) .n))))) (fun _ h => h.sel (.c .g1 (.c .g1 .n)))
 exfalso; first | omega | contradiction
 exfalso; first | omega | contradiction
 refine Y.skipl rfl rfl .z rfl rfl (by decide) rfl ?_
 refine Y.skipl rfl rfl .g1 rfl rfl (by decide) rfl ?_
 refine Y.ql rfl (q_pickF rfl (.t .g2) .c) (Y.er .g11 (Y.as rfl .z (Y.nt ?_)))
 refine Y.condF (.t .z) ?_
 refine Y.seq (Y.region (Y.fa rfl (.s16 .g13) fa_44_0 (Y.ld rfl ag_2 .z .z (Y.ql rfl (q_eql rfl (.t .z) .c) (Y.mv rfl .z ?_)))))
 refine Y.caseP .z (fun g30 => ?_) (fun g30 => ?_)
 refine Y.qg rfl rfl .z rfl rfl rfl (q_move rfl (.t (.s16 .g14))) ?_
 refine Y.qg rfl rfl .g1 rfl rfl rfl (q_gtr rfl (.t .z) .c) ?_
 refine Y.ql rfl (q_pickT rfl (.t .g2) (.t .z)) (Y.mv rfl .z ?_)
 refine Y.caseP .z (fun g31 => ?_) (fun g31 => ?_)
 refine Y.qg rfl rfl .z rfl rfl rfl (q_move rfl (.t (.s16 .g13))) ?_
 refine Y.qg rfl rfl .g1 rfl rfl rfl (q_neq rfl (.t .z) .c) ?_
 refine Y.ql rfl (q_pickT rfl (.t .g2) (.t .z)) (Y.er .g11 (Y.as rfl .z (Y.nt ?_)))
 refine Y.condN (.t .z) (fun bz => ?_) (fun bz => ?_)
 refine Y.skip (Y.then_ ?_)
 refine Y.condN (.t .z) (fun b0 => ?_) (fun b0 => ?_)
 refine Y.seq (Y.region (Y.ql rfl (q_assign rfl .c) (Y.nt (Y.ret (Y.inBR (Y.inBR (Y.thenR ?_)))))))
 refine Y.thenR (Y.inBR (Y.thenR ?_))
 refine Y.doneS (res1 rfl .z) .n ?_
 exact ⟨by first | (rw [linksF_1 (fun hl => by have aa := hl k _ ab; first | (have e := aa.file (by omega); omega) | (have e := aa.root (by omega) (by omega); omega) | (have e := aa.dir (by omega) (by omega); omega) | exact absurd (aa.way (by omega)) (by assumption))]; done) | (rw [linksF_0 (links_yes (k := k) (by omega) hallk)]; done), rfl⟩
 exfalso; first | omega | contradiction
 refine Y.region (Y.fa rfl (.s16 (.s16 .g8)) fa_44_0 (Y.ld rfl ag_2 .z .z (Y.ql rfl (q_neq rfl (.t .z) .c) (Y.mv rfl .z ?_))))
 refine Y.caseN .z (fun g34 => ?_) (fun g34 => ?_)
 refine Y.qg rfl rfl .z rfl rfl rfl (q_move rfl (.t (.s16 (.s16 (.s16 .g4))))) ?_
 refine Y.qg rfl rfl .g1 rfl rfl rfl (q_move rfl (.t (.s16 (.s16 .g10)))) ?_
 refine Y.call (goes_listg rfl rfl .g2) rfl (by decide) rfl (c_call rfl Tryz.func140 rfl rfl (args2 (.t .g1) (.t .z))) .n (fun _ _ hs tr => c_140 (tr.own .g1) _) ?_
 rintro _ _ ⟨rfl, rfl⟩
 refine Y.cat .n ?_
 refine Y.qg rfl rfl .g3 rfl rfl rfl (q_not rfl (.t .z)) ?_
 refine Y.ql rfl (q_pickT rfl (.t .g4) (.t .z)) (Y.er .g9 (Y.as rfl .z (Y.nt ?_)))
 refine Y.condN (.t .z) (fun b1 => ?_) (fun b1 => ?_)
 refine Y.seq (Y.region (Y.ql rfl (q_assign rfl .c) (Y.nt (Y.ret (Y.inBR (Y.inBR (Y.thenR ?_)))))))
 refine Y.thenR (Y.inBR (Y.thenR ?_))
 refine Y.doneS (res1 rfl .z) .n ?_
 exact ⟨by first | (rw [linksF_1 (fun hl => by have aa := hl k _ ab; first | (have e := aa.file (by omega); omega) | (have e := aa.root (by omega) (by omega); omega) | (have e := aa.dir (by omega) (by omega); omega) | exact absurd (aa.way (by omega)) (by assumption))]; done) | (rw [linksF_0 (links_yes (k := k) (by omega) hallk)]; done), rfl⟩
 refine Y.skip (Y.inBN (Y.inBN (Y.then_ (Y.region ?_))))
 refine Y.ql rfl (q_add (c := ((k + 1 : Nat) : Int)) rfl (.t (.s16 (.s16 (.s16 .g6)))) .c (wr (by omega) (by omega) (by omega))) ?_
 refine Y.er (.s16 (.s16 (.s16 .g7))) (Y.mv rfl .z (Y.nil ?_))
 refine Y.again (k + 1) ⟨by omega, all_succ (q := fun j x => LinkOk f j x) hallk ab ⟨fun h1 => by first | omega | contradiction, fun h1 h2 => by first | omega | contradiction, fun h1 h2 => by first | omega | contradiction, fun h1 => by first | assumption | contradiction | (exfalso; omega)⟩⟩ (by first | omega | (dsimp only; omega)) (.c .z (.c (.s16 (.s16 (.s16 .g8))) (.c (.s16 (.s16 (.s16 .g9))) (.c (.s16 (.s16 (.s16 .g10))) (.c (.s16 (.s16 (.s16 .g11))) .n))))) (fun _ h => h.sel (.c .g1 (.c .g1 .n)))
 exfalso; first | omega | contradiction
 refine Y.skipl rfl rfl .z rfl rfl (by decide) rfl ?_
 refine Y.skipl rfl rfl .g1 rfl rfl (by decide) rfl ?_
 refine Y.ql rfl (q_pickF rfl (.t .g2) .c) (Y.er .g11 (Y.as rfl .z (Y.nt ?_)))
 refine Y.condF (.t .z) ?_
 refine Y.region (Y.fa rfl (.s16 (.s16 .g8)) fa_44_0 (Y.ld rfl ag_2 .z .z (Y.ql rfl (q_neq rfl (.t .z) .c) (Y.mv rfl .z ?_))))
 refine Y.caseN .z (fun g36 => ?_) (fun g36 => ?_)
 refine Y.qg rfl rfl .z rfl rfl rfl (q_move rfl (.t (.s16 (.s16 (.s16 .g4))))) ?_
 refine Y.qg rfl rfl .g1 rfl rfl rfl (q_move rfl (.t (.s16 (.s16 .g10)))) ?_
 refine Y.call (goes_listg rfl rfl .g2) rfl (by decide) rfl (c_call rfl Tryz.func140 rfl rfl (args2 (.t .g1) (.t .z))) .n (fun _ _ hs tr => c_140 (tr.own .g1) _) ?_
 rintro _ _ ⟨rfl, rfl⟩
 refine Y.cat .n ?_
 refine Y.qg rfl rfl .g3 rfl rfl rfl (q_not rfl (.t .z)) ?_
 refine Y.ql rfl (q_pickT rfl (.t .g4) (.t .z)) (Y.er .g9 (Y.as rfl .z (Y.nt ?_)))
 refine Y.condN (.t .z) (fun b2 => ?_) (fun b2 => ?_)
 refine Y.seq (Y.region (Y.ql rfl (q_assign rfl .c) (Y.nt (Y.ret (Y.inBR (Y.inBR (Y.thenR ?_)))))))
 refine Y.thenR (Y.inBR (Y.thenR ?_))
 refine Y.doneS (res1 rfl .z) .n ?_
 exact ⟨by first | (rw [linksF_1 (fun hl => by have aa := hl k _ ab; first | (have e := aa.file (by omega); omega) | (have e := aa.root (by omega) (by omega); omega) | (have e := aa.dir (by omega) (by omega); omega) | exact absurd (aa.way (by omega)) (by assumption))]; done) | (rw [linksF_0 (links_yes (k := k) (by omega) hallk)]; done), rfl⟩
 refine Y.skip (Y.inBN (Y.inBN (Y.then_ (Y.region ?_))))
 refine Y.ql rfl (q_add (c := ((k + 1 : Nat) : Int)) rfl (.t (.s16 (.s16 (.s16 .g6)))) .c (wr (by omega) (by omega) (by omega))) ?_
 refine Y.er (.s16 (.s16 (.s16 .g7))) (Y.mv rfl .z (Y.nil ?_))
 refine Y.again (k + 1) ⟨by omega, all_succ (q := fun j x => LinkOk f j x) hallk ab ⟨fun h1 => by first | omega | contradiction, fun h1 h2 => by first | omega | contradiction, fun h1 h2 => by first | omega | contradiction, fun h1 => by first | assumption | contradiction | (exfalso; omega)⟩⟩ (by first | omega | (dsimp only; omega)) (.c .z (.c (.s16 (.s16 (.s16 .g8))) (.c (.s16 (.s16 (.s16 .g9))) (.c (.s16 (.s16 (.s16 .g10))) (.c (.s16 (.s16 (.s16 .g11))) .n))))) (fun _ h => h.sel (.c .g1 (.c .g1 .n)))
 exfalso; first | omega | contradiction
 exfalso; first | omega | contradiction
 refine Y.skipl rfl rfl .z rfl rfl (by decide) rfl ?_
 refine Y.skipl rfl rfl .g1 rfl rfl (by decide) rfl ?_
 refine Y.ql rfl (q_pickF rfl (.t .g2) .c) (Y.mv rfl .z ?_)
 refine Y.skipl rfl rfl .z rfl rfl (by decide) rfl ?_
 refine Y.skipl rfl rfl .g1 rfl rfl (by decide) rfl ?_
 refine Y.ql rfl (q_pickF rfl (.t .g2) .c) (Y.er .g11 (Y.as rfl .z (Y.nt ?_)))
 refine Y.condF (.t .z) ?_
 refine Y.seq (Y.region (Y.fa rfl (.s16 .g13) fa_44_0 (Y.ld rfl ag_2 .z .z (Y.ql rfl (q_eql rfl (.t .z) .c) (Y.mv rfl .z ?_)))))
 refine Y.caseP .z (fun g38 => ?_) (fun g38 => ?_)
 exfalso; first | omega | contradiction
 refine Y.skipl rfl rfl .z rfl rfl (by decide) rfl ?_
 refine Y.skipl rfl rfl .g1 rfl rfl (by decide) rfl ?_
 refine Y.ql rfl (q_pickF rfl (.t .g2) .c) (Y.mv rfl .z ?_)
 refine Y.skipl rfl rfl .z rfl rfl (by decide) rfl ?_
 refine Y.skipl rfl rfl .g1 rfl rfl (by decide) rfl ?_
 refine Y.ql rfl (q_pickF rfl (.t .g2) .c) (Y.er .g11 (Y.as rfl .z (Y.nt ?_)))
 refine Y.condF (.t .z) ?_
 refine Y.region (Y.fa rfl (.s16 (.s16 .g8)) fa_44_0 (Y.ld rfl ag_2 .z .z (Y.ql rfl (q_neq rfl (.t .z) .c) (Y.mv rfl .z ?_))))
 refine Y.caseN .z (fun g39 => ?_) (fun g39 => ?_)
 refine Y.qg rfl rfl .z rfl rfl rfl (q_move rfl (.t (.s16 (.s16 (.s16 .g4))))) ?_
 refine Y.qg rfl rfl .g1 rfl rfl rfl (q_move rfl (.t (.s16 (.s16 .g10)))) ?_
 refine Y.call (goes_listg rfl rfl .g2) rfl (by decide) rfl (c_call rfl Tryz.func140 rfl rfl (args2 (.t .g1) (.t .z))) .n (fun _ _ hs tr => c_140 (tr.own .g1) _) ?_
 rintro _ _ ⟨rfl, rfl⟩
 refine Y.cat .n ?_
 refine Y.qg rfl rfl .g3 rfl rfl rfl (q_not rfl (.t .z)) ?_
 refine Y.ql rfl (q_pickT rfl (.t .g4) (.t .z)) (Y.er .g9 (Y.as rfl .z (Y.nt ?_)))
 refine Y.condN (.t .z) (fun b3 => ?_) (fun b3 => ?_)
 refine Y.seq (Y.region (Y.ql rfl (q_assign rfl .c) (Y.nt (Y.ret (Y.inBR (Y.inBR (Y.thenR ?_)))))))
 refine Y.thenR (Y.inBR (Y.thenR ?_))
 refine Y.doneS (res1 rfl .z) .n ?_
 exact ⟨by first | (rw [linksF_1 (fun hl => by have aa := hl k _ ab; first | (have e := aa.file (by omega); omega) | (have e := aa.root (by omega) (by omega); omega) | (have e := aa.dir (by omega) (by omega); omega) | exact absurd (aa.way (by omega)) (by assumption))]; done) | (rw [linksF_0 (links_yes (k := k) (by omega) hallk)]; done), rfl⟩
 refine Y.skip (Y.inBN (Y.inBN (Y.then_ (Y.region ?_))))
 refine Y.ql rfl (q_add (c := ((k + 1 : Nat) : Int)) rfl (.t (.s16 (.s16 (.s16 .g6)))) .c (wr (by omega) (by omega) (by omega))) ?_
 refine Y.er (.s16 (.s16 (.s16 .g7))) (Y.mv rfl .z (Y.nil ?_))
 refine Y.again (k + 1) ⟨by omega, all_succ (q := fun j x => LinkOk f j x) hallk ab ⟨fun h1 => by first | omega | contradiction, fun h1 h2 => by first | omega | contradiction, fun h1 h2 => by first | omega | contradiction, fun h1 => by first | assumption | contradiction | (exfalso; omega)⟩⟩ (by first | omega | (dsimp only; omega)) (.c .z (.c (.s16 (.s16 (.s16 .g8))) (.c (.s16 (.s16 (.s16 .g9))) (.c (.s16 (.s16 (.s16 .g10))) (.c (.s16 (.s16 (.s16 .g11))) .n))))) (fun _ h => h.sel (.c .g1 (.c .g1 .n)))
 refine Y.skipl rfl rfl .z rfl rfl (by decide) rfl ?_
 refine Y.skipl rfl rfl .g1 rfl rfl (by decide) rfl ?_
 refine Y.skipl rfl rfl .g2 rfl rfl (by decide) rfl ?_
 refine Y.skipl rfl rfl .g3 rfl rfl (by decide) rfl ?_
 refine Y.ql rfl (q_pickF rfl (.t .g4) .c) (Y.er .g9 (Y.as rfl .z (Y.nt ?_)))
 refine Y.condF (.t .z) ?_
 refine Y.skip (Y.inBN (Y.inBN (Y.then_ (Y.region ?_))))
 refine Y.ql rfl (q_add (c := ((k + 1 : Nat) : Int)) rfl (.t (.s16 (.s16 (.s16 .g6)))) .c (wr (by omega) (by omega) (by omega))) ?_
 refine Y.er (.s16 (.s16 (.s16 .g7))) (Y.mv rfl .z (Y.nil ?_))
 refine Y.again (k + 1) ⟨by omega, all_succ (q := fun j x => LinkOk f j x) hallk ab ⟨fun h1 => by first | omega | contradiction, fun h1 h2 => by first | omega | contradiction, fun h1 h2 => by first | omega | contradiction, fun h1 => by first | assumption | contradiction | (exfalso; omega)⟩⟩ (by first | omega | (dsimp only; omega)) (.c .z (.c (.s16 (.s16 (.s16 .g8))) (.c (.s16 (.s16 (.s16 .g9))) (.c (.s16 (.s16 (.s16 .g10))) (.c (.s16 (.s16 (.s16 .g11))) .n))))) (fun _ h => h.sel (.c .g1 (.c .g1 .n)))
 refine Y.exit (Y.thenE (Y.thenE (Y.inB (Y.then_ (Y.seq (Y.region (Y.ql rfl (q_assign rfl .c) (Y.nil ?_))))))))
 refine Y.then_ (Y.ret ?_)
 refine Y.doneS (res1 rfl .z) .n ?_
 exact ⟨by first | (rw [linksF_0 (links_yes (k := k) (by omega) hallk)]; done), rfl⟩

theorem c_102 {w0 : World} {S0 : Bs} {f : DFs} {ak : Addr} (h0 : PtrRo kT_27 w0 (FF w0 S0) ak f) (ht : treeFault f = 0) :
    Calls Tryz.prog 102 #[.pointer (some ak)] w0 (TriPost w0 S0 (fun r l => r = .bool (decide (LinksOk f)) ∧ l = [])) := by
 obtain ⟨b0, al, bf, am⟩ := id h0
 obtain ⟨bg, bh, rfl, ae, an⟩ := kT_27_ro bf
 obtain ⟨bi, bj, rfl, a0, a1, a2, af⟩ := ro_form ae
 obtain ⟨bk, bm, rfl, a3, a4, a5, a6⟩ := ro_form an
 have hI := treeI ht
 have hG := treeG ht
 have b1 := treeL ht
 have b2 := inodes_10 hI
 have bn := data_20 ht
 refine Y.enter (N := 59) Tryz.func102 rfl rfl (by simp) [(0, .pointer (some ak))] (by simp) (l0 := []) trivial ?_
 refine Y.seq (Y.region (Y.ql rfl (q_assign rfl .c) (Y.nt (Y.seq (Y.region (Y.mv rfl .g1 ?_))))))
 refine Y.cl rfl rfl Tryz.func53 rfl rfl (args1 (.t .z)) .n (fun _ _ hs tr => c_53 (tr.ctxP h0) (by assumption)) ?_
 rintro _ _ rfl
 refine Y.cat (.c .n) ?_
 refine Y.know (WS.oform .z) ?_
 rintro ⟨a7, a8, rfl, bo, bp, bq⟩
 refine Y.as rfl .z (Y.nt (Y.seq (Y.seq (Y.region (Y.ql rfl (q_assign rfl .c) (Y.nt ?_))))))
 refine Y.block ?_
 refine Y.loopi (γ := Nat) (fun k => [(4, .int .i64 (k : Int)), (3, .slice a7 (reachL (f).inodes 0).length a8), (0, .pointer (some ak))]) (fun k => [ownA kSl_2 (reachL (f).inodes 0) [.slice a7 (reachL (f).inodes 0).length a8]]) (fun k => k ≤ f.inodes.length ∧ ∀ j x, j < k → f.inodes[j]? = some x → LinkOk f j x) (fun k => f.inodes.length - k) 0 ⟨Nat.zero_le _, all_zero (q := fun j x => LinkOk f j x)⟩ (.c .z (.c .g1 (.c .g5 .n))) (fun _ h => h.sel (.c .z .n)) ?_
 rintro k ⟨hk, hallk⟩
 refine Y.seq (Y.seq (Y.region (Y.mv rfl .z (Y.mv rfl .g3 (Y.nc rfl .z (Y.fa rfl .z fa_27_0 (Y.le rfl ag_24 .z al am (Y.ql rfl (q_len rfl u_24 (.t .z)) ?_))))))))
 refine Y.ql rfl (q_lss rfl (.t .g5) (.t .z)) (Y.nt ?_)
 refine Y.condP (.t .z) (fun b5 => ?_) (fun b5 => ?_)
 refine Y.skip (Y.then_ (Y.seq (Y.block (Y.seq (Y.region (Y.mv rfl .g9 (Y.nc rfl .z (Y.fa rfl .z fa_27_0 ?_))))))))
 refine Y.le rfl ag_24 .z al am (Y.mv rfl .g11 ?_)
 obtain ⟨b3, ag, ah⟩ := af (by omega)
 subst ag
 obtain ⟨x7, ab⟩ := get_ex (xs := f.inodes) (j := k) (by omega)
 obtain ⟨br, ao, ac, ad⟩ := ah.elem ab
 obtain ⟨a9, ba, rfl, ai, aj⟩ := kT_44_ro ao
 obtain ⟨bb, bc, rfl, ap, aq, ar, au⟩ := ro_form ai
 obtain ⟨bd, be, rfl, av, aw, ax, ay⟩ := ro_form aj
 have b4 := kind_at (i := ((k : Nat) : Int)) ab (by omega)
 have b6 := ents_at (a := ((k : Nat) : Int)) ab (by omega)
 have az := inodes_all hI _ (List.mem_of_getElem? ab)
 have bs := kind_02 az
 refine Y.ql rfl (q_indexAddr (j := k) rfl u_24 sz_44 (.t .g1) (.t .z) rfl (by omega)) ?_
 refine Y.as rfl .z (Y.nt (Y.seq (Y.region (Y.mv rfl .g16 (Y.nc rfl .z (Y.fa rfl .z fa_27_0 (Y.le rfl ag_24 .z al am ?_)))))))
 refine Y.mv rfl (.s16 .g2) ?_
 refine Y.cl rfl rfl Tryz.func142 rfl rfl (args2 (.t .g1) (.t .z)) .n (fun _ _ hs tr => c_142 (tr.ctx ae) _ (by first | assumption | exact links_60 (by assumption) _ | (simp only [takeF] at *; assumption))) ?_
 rintro _ _ ⟨rfl, rfl⟩
 refine Y.cat .n ?_
 refine Y.as rfl .z (Y.nt (Y.seq (Y.region (Y.ql rfl (q_assign rfl .c) (Y.nt (Y.seq ?_))))))
 refine Y.block (Y.seq (Y.region (Y.mv rfl .g8 (Y.nc rfl .z (Y.fa rfl .z fa_44_0 (Y.le rfl ag_2 .z ac ad (Y.ql rfl (q_eql rfl (.t .z) .c) (Y.as rfl .z ?_))))))))
 refine Y.nt ?_
 refine Y.condP (.t .z) (fun bt => ?_) (fun bt => ?_)
 refine Y.exit ?_
 refine Y.inBne (by decide) ?_
 refine Y.thenE (Y.inB (Y.then_ (Y.region (Y.mv rfl (.s16 .g12) ?_))))
 refine Y.ql rfl (q_add (c := ((k + 1 : Nat) : Int)) rfl (.t .z) .c (wr (by omega) (by omega) (by omega))) ?_
 refine Y.er (.s16 .g14) (Y.as rfl .z (Y.nil ?_))
 refine Y.again (k + 1) ⟨by omega, all_succ (q := fun j x => LinkOk f j x) hallk ab ⟨fun h1 => by first | omega | contradiction, fun h1 h2 => by first | omega | contradiction, fun h1 h2 => by first | omega | contradiction, fun h1 => by first | assumption | contradiction | (exfalso; omega)⟩⟩ (by first | omega | (dsimp only; omega)) (.c .z (.c (.s16 .g15) (.c (.s16 .g16) .n))) (fun _ h => h.sel (.c .z .n))
 refine Y.seq (Y.region (Y.mv rfl .g14 (Y.nc rfl .z (Y.fa rfl .z fa_44_0 (Y.le rfl ag_2 .z ac ad (Y.ql rfl (q_eql rfl (.t .z) .c) (Y.as rfl .z (Y.nil ?_))))))))
 refine Y.then_ ?_
 refine Y.condP (.t .z) (fun bu => ?_) (fun bu => ?_)
 refine Y.region (Y.mv rfl (.s16 .g4) (Y.nc rfl .z (Y.fa rfl .z fa_44_1 (Y.le rfl ag_2 .z ac ad (Y.er .g16 (Y.as rfl .z (Y.nil (Y.inBN ?_))))))))
 refine Y.then_ (Y.seq (Y.region (Y.mv rfl (.s16 .g1) (Y.mv rfl .g1 (Y.ql rfl (q_neq rfl (.t .g1) (.t .z)) (Y.mv rfl .z ?_))))))
 refine Y.caseN .z (fun g13 => ?_) (fun g13 => ?_)
 refine Y.skipl rfl rfl .z rfl rfl (by decide) rfl ?_
 refine Y.skipl rfl rfl .g1 rfl rfl (by decide) rfl ?_
 refine Y.skipl rfl rfl .g2 rfl rfl (by decide) rfl ?_
 refine Y.skipl rfl rfl .g3 rfl rfl (by decide) rfl ?_
 refine Y.ql rfl (q_pickT rfl (.t .g4) .c) (Y.nt ?_)
 refine Y.condT (.t .z) ?_
 refine Y.seq (Y.region (Y.ql rfl (q_assign rfl .c) (Y.nt (Y.ret (Y.inBR (Y.thenR (Y.thenR ?_)))))))
 refine Y.inBR (Y.thenR ?_)
 refine Y.doneS (res1 rfl .z) .n ?_
 exact ⟨by first | (rw [decide_eq_true (links_yes (k := k) (by omega) hallk)]; done) | (rw [decide_eq_false (fun hl => by have aa := hl k _ ab; first | (have e := aa.file (by omega); omega) | (have e := aa.root (by omega) (by omega); omega) | (have e := aa.dir (by omega) (by omega); omega) | exact absurd (aa.way (by omega)) (by assumption))]; done), rfl⟩
 refine Y.qg rfl rfl .z rfl rfl rfl (q_move rfl (.t (.s16 (.s16 .g11)))) ?_
 refine Y.qg rfl rfl .g1 rfl rfl rfl (q_move rfl (.t (.s16 (.s16 .g11)))) ?_
 refine Y.call (goes_listg rfl rfl .g2) rfl (by decide) rfl (c_call rfl Tryz.func143 rfl rfl (args2 (.t .g1) (.t .z))) .n (fun _ _ hs tr => c_143 (tr.own .z) _) ?_
 rintro _ _ ⟨rfl, rfl⟩
 refine Y.cat .n ?_
 refine Y.qg rfl rfl .g3 rfl rfl rfl (q_not rfl (.t .z)) ?_
 refine Y.ql rfl (q_pickF rfl (.t .g4) (.t .z)) (Y.nt ?_)
 refine Y.condN (.t .z) (fun bv => ?_) (fun bv => ?_)
 refine Y.seq (Y.region (Y.ql rfl (q_assign rfl .c) (Y.nt (Y.ret (Y.inBR (Y.thenR (Y.thenR ?_)))))))
 refine Y.inBR (Y.thenR ?_)
 refine Y.doneS (res1 rfl .z) .n ?_
 exact ⟨by first | (rw [decide_eq_true (links_yes (k := k) (by omega) hallk)]; done) | (rw [decide_eq_false (fun hl => by have aa := hl k _ ab; first | (have e := aa.file (by omega); omega) | (have e := aa.root (by omega) (by omega); omega) | (have e := aa.dir (by omega) (by omega); omega) | exact absurd (aa.way (by omega)) (by assumption))]; done), rfl⟩
 refine Y.skip (Y.inBN (Y.then_ (Y.region (Y.mv rfl (.s16 (.s16 .g15)) ?_))))
 refine Y.ql rfl (q_add (c := ((k + 1 : Nat) : Int)) rfl (.t .z) .c (wr (by omega) (by omega) (by omega))) ?_
 refine Y.er (.s16 (.s16 (.s16 .g1))) (Y.as rfl .z (Y.nil ?_))
 refine Y.again (k + 1) ⟨by omega, all_succ (q := fun j x => LinkOk f j x) hallk ab ⟨fun h1 => by first | omega | contradiction, fun h1 h2 => by first | omega | contradiction, fun h1 h2 => by first | omega | contradiction, fun h1 => by first | assumption | contradiction | (exfalso; omega)⟩⟩ (by first | omega | (dsimp only; omega)) (.c .z (.c (.s16 (.s16 (.s16 .g2))) (.c (.s16 (.s16 (.s16 .g3))) .n))) (fun _ h => h.sel (.c .z .n))
 refine Y.seq (Y.region (Y.mv rfl (.s16 (.s16 .g2)) (Y.ql rfl (q_eql rfl (.t .z) .c) (Y.as rfl .z (Y.nt ?_)))))
 refine Y.condP (.t .z) (fun bw => ?_) (fun bw => ?_)
 refine Y.region (Y.er .g15 (Y.ql rfl (q_assign rfl .c) (Y.nil (Y.inBN (Y.then_ (Y.seq (Y.region (Y.mv rfl .g16 ?_))))))))
 refine Y.mv rfl .g1 (Y.ql rfl (q_neq rfl (.t .g1) (.t .z)) (Y.mv rfl .z ?_))
 refine Y.caseN .z (fun g16 => ?_) (fun g16 => ?_)
 refine Y.skipl rfl rfl .z rfl rfl (by decide) rfl ?_
 refine Y.skipl rfl rfl .g1 rfl rfl (by decide) rfl ?_
 refine Y.skipl rfl rfl .g2 rfl rfl (by decide) rfl ?_
 refine Y.skipl rfl rfl .g3 rfl rfl (by decide) rfl ?_
 refine Y.ql rfl (q_pickT rfl (.t .g4) .c) (Y.nt ?_)
 refine Y.condT (.t .z) ?_
 refine Y.seq (Y.region (Y.ql rfl (q_assign rfl .c) (Y.nt (Y.ret (Y.inBR (Y.thenR (Y.thenR ?_)))))))
 refine Y.inBR (Y.thenR ?_)
 refine Y.doneS (res1 rfl .z) .n ?_
 exact ⟨by first | (rw [decide_eq_true (links_yes (k := k) (by omega) hallk)]; done) | (rw [decide_eq_false (fun hl => by have aa := hl k _ ab; first | (have e := aa.file (by omega); omega) | (have e := aa.root (by omega) (by omega); omega) | (have e := aa.dir (by omega) (by omega); omega) | exact absurd (aa.way (by omega)) (by assumption))]; done), rfl⟩
 refine Y.qg rfl rfl .z rfl rfl rfl (q_move rfl (.t (.s16 (.s16 .g10)))) ?_
 refine Y.qg rfl rfl .g1 rfl rfl rfl (q_move rfl (.t (.s16 (.s16 .g10)))) ?_
 refine Y.call (goes_listg rfl rfl .g2) rfl (by decide) rfl (c_call rfl Tryz.func143 rfl rfl (args2 (.t .g1) (.t .z))) .n (fun _ _ hs tr => c_143 (tr.own .z) _) ?_
 rintro _ _ ⟨rfl, rfl⟩
 refine Y.cat .n ?_
 refine Y.qg rfl rfl .g3 rfl rfl rfl (q_not rfl (.t .z)) ?_
 refine Y.ql rfl (q_pickF rfl (.t .g4) (.t .z)) (Y.nt ?_)
 refine Y.condN (.t .z) (fun bx => ?_) (fun bx => ?_)
 refine Y.seq (Y.region (Y.ql rfl (q_assign rfl .c) (Y.nt (Y.ret (Y.inBR (Y.thenR (Y.thenR ?_)))))))
 refine Y.inBR (Y.thenR ?_)
 refine Y.doneS (res1 rfl .z) .n ?_
 exact ⟨by first | (rw [decide_eq_true (links_yes (k := k) (by omega) hallk)]; done) | (rw [decide_eq_false (fun hl => by have aa := hl k _ ab; first | (have e := aa.file (by omega); omega) | (have e := aa.root (by omega) (by omega); omega) | (have e := aa.dir (by omega) (by omega); omega) | exact absurd (aa.way (by omega)) (by assumption))]; done), rfl⟩
 refine Y.skip (Y.inBN (Y.then_ (Y.region (Y.mv rfl (.s16 (.s16 .g14)) ?_))))
 refine Y.ql rfl (q_add (c := ((k + 1 : Nat) : Int)) rfl (.t .z) .c (wr (by omega) (by omega) (by omega))) ?_
 refine Y.er (.s16 (.s16 .g16)) (Y.as rfl .z (Y.nil ?_))
 refine Y.again (k + 1) ⟨by omega, all_succ (q := fun j x => LinkOk f j x) hallk ab ⟨fun h1 => by first | omega | contradiction, fun h1 h2 => by first | omega | contradiction, fun h1 h2 => by first | omega | contradiction, fun h1 => by first | assumption | contradiction | (exfalso; omega)⟩⟩ (by first | omega | (dsimp only; omega)) (.c .z (.c (.s16 (.s16 (.s16 .g1))) (.c (.s16 (.s16 (.s16 .g2))) .n))) (fun _ h => h.sel (.c .z .n))
 refine Y.skip (Y.inBN (Y.then_ (Y.seq (Y.region (Y.mv rfl .g16 (Y.mv rfl .g16 (Y.ql rfl (q_neq rfl (.t .g1) (.t .z)) (Y.mv rfl .z ?_))))))))
 refine Y.caseN .z (fun g18 => ?_) (fun g18 => ?_)
 refine Y.skipl rfl rfl .z rfl rfl (by decide) rfl ?_
 refine Y.skipl rfl rfl .g1 rfl rfl (by decide) rfl ?_
 refine Y.skipl rfl rfl .g2 rfl rfl (by decide) rfl ?_
 refine Y.skipl rfl rfl .g3 rfl rfl (by decide) rfl ?_
 refine Y.ql rfl (q_pickT rfl (.t .g4) .c) (Y.nt ?_)
 refine Y.condT (.t .z) ?_
 refine Y.seq (Y.region (Y.ql rfl (q_assign rfl .c) (Y.nt (Y.ret (Y.inBR (Y.thenR (Y.thenR ?_)))))))
 refine Y.inBR (Y.thenR ?_)
 refine Y.doneS (res1 rfl .z) .n ?_
 exact ⟨by first | (rw [decide_eq_true (links_yes (k := k) (by omega) hallk)]; done) | (rw [decide_eq_false (fun hl => by have aa := hl k _ ab; first | (have e := aa.file (by omega); omega) | (have e := aa.root (by omega) (by omega); omega) | (have e := aa.dir (by omega) (by omega); omega) | exact absurd (aa.way (by omega)) (by assumption))]; done), rfl⟩
 refine Y.qg rfl rfl .z rfl rfl rfl (q_move rfl (.t (.s16 (.s16 .g10)))) ?_
 refine Y.qg rfl rfl .g1 rfl rfl rfl (q_move rfl (.t (.s16 (.s16 .g10)))) ?_
 refine Y.call (goes_listg rfl rfl .g2) rfl (by decide) rfl (c_call rfl Tryz.func143 rfl rfl (args2 (.t .g1) (.t .z))) .n (fun _ _ hs tr => c_143 (tr.own .z) _) ?_
 rintro _ _ ⟨rfl, rfl⟩
 refine Y.cat .n ?_
 refine Y.qg rfl rfl .g3 rfl rfl rfl (q_not rfl (.t .z)) ?_
 refine Y.ql rfl (q_pickF rfl (.t .g4) (.t .z)) (Y.nt ?_)
 refine Y.condN (.t .z) (fun bz => ?_) (fun bz => ?_)
 refine Y.seq (Y.region (Y.ql rfl (q_assign rfl .c) (Y.nt (Y.ret (Y.inBR (Y.thenR (Y.thenR ?_)))))))
 refine Y.inBR (Y.thenR ?_)
 refine Y.doneS (res1 rfl .z) .n ?_
 exact ⟨by first | (rw [decide_eq_true (links_yes (k := k) (by omega) hallk)]; done) | (rw [decide_eq_false (fun hl => by have aa := hl k _ ab; first | (have e := aa.file (by omega); omega) | (have e := aa.root (by omega) (by omega); omega) | (have e := aa.dir (by omega) (by omega); omega) | exact absurd (aa.way (by omega)) (by assumption))]; done), rfl⟩
 refine Y.skip (Y.inBN (Y.then_ (Y.region (Y.mv rfl (.s16 (.s16 .g14)) ?_))))
 refine Y.ql rfl (q_add (c := ((k + 1 : Nat) : Int)) rfl (.t .z) .c (wr (by omega) (by omega) (by omega))) ?_
 refine Y.er (.s16 (.s16 .g16)) (Y.as rfl .z (Y.nil ?_))
 refine Y.again (k + 1) ⟨by omega, all_succ (q := fun j x => LinkOk f j x) hallk ab ⟨fun h1 => by first | omega | contradiction, fun h1 h2 => by first | omega | contradiction, fun h1 h2 => by first | omega | contradiction, fun h1 => by first | assumption | contradiction | (exfalso; omega)⟩⟩ (by first | omega | (dsimp only; omega)) (.c .z (.c (.s16 (.s16 (.s16 .g1))) (.c (.s16 (.s16 (.s16 .g2))) .n))) (fun _ h => h.sel (.c .z .n))
 refine Y.exit (Y.thenE (Y.thenE (Y.inB (Y.then_ (Y.seq (Y.region (Y.ql rfl (q_assign rfl .c) (Y.nil ?_))))))))
 refine Y.then_ (Y.ret ?_)
 refine Y.doneS (res1 rfl .z) .n ?_
 exact ⟨by first | (rw [decide_eq_true (links_yes (k := k) (by omega) hallk)]; done), rfl⟩

end Go.Proofs.YtmejbfmhaoilmaaGreat

/- What is proved: contracts of functions, one a function. No condition. -/
import Derived.Test.YtmejbfmhaoilmaaGreatBase1
import Derived.Test.YtmejbfmhaoilmaaGreatW87
import Derived.Test.YtmejbfmhaoilmaaGreatBase2
namespace Go.Proofs.YtmejbfmhaoilmaaGreat
open Go Go.RowKit
set_option linter.unusedVariables false
set_option linter.unusedSimpArgs false
set_option maxHeartbeats 1000000
set_option maxRecDepth 20000
theorem c_14 {w0 : World} {S0 : Bs} {cd : (List UInt8)} {v0 : Value} (h0 : kSl_5.ro w0 (FF w0 S0) cd [v0]) (hcl : cd.length ≤ 1048576) :
    Calls Tryz.prog 14 #[v0] w0 (TriPost w0 S0 (fun r l => ∃ (f : DFs) (v0_ v1_ : Value) , (f.inodes.length ≤ 11 ∧ f.data.length ≤ 20) ∧ r = .agg #[v0_, v1_] ∧ l = [ownA (kfro kSl_44) f.inodes [v0_], ownA (kfro kSl_22) f.data [v1_]])) := by
 obtain ⟨A0, c0, rfl, am, an, ao, ap⟩ := ro_form h0
 refine Y.enter (N := 6) Tryz.func14 rfl rfl (by simp) [(0, .slice A0 cd.length c0)] (by simp) (l0 := []) trivial ?_
 refine Y.seq (Y.region ?_)
 refine Y.el rfl (e_alloc rfl z_27 rfl rfl) ?_
 rintro _ _ ⟨g2, rfl, rfl⟩
 refine Y.nt (Y.seq (Y.region (Y.mv rfl .g1 ?_)))
 refine Y.cl rfl rfl Tryz.func40 rfl rfl (args1 (.t .z)) .n (fun _ _ hs tr => c_40 (tr.ctx h0)) ?_
 rintro _ _ ⟨g3, rfl, rfl⟩
 refine Y.cat (.c .n) ?_
 refine Y.cl rfl rfl Tryz.func49 rfl rfl (args1 (.t .z)) (.c .z .n) (fun _ _ hs tr => c_49 (tr.ctx h0) hs (by omega)) ?_
 rintro _ _ ⟨ah, v6, v8, u4, aa, rfl, rfl⟩
 refine Y.cat (.c (.c (.c .n))) ?_
 refine Y.know (WS.kform .z) ?_
 rintro ⟨ai, aj, rfl, ab, ac, ad⟩
 refine Y.know (WS.kform .g1) ?_
 rintro ⟨ak, al, rfl, ae, af, ag⟩
 refine Y.es (goes_list rfl) rfl (esW rfl (.t .g3) (.t .z) .g3 sz_27 rfl rfl) ?_
 refine Y.nt (Y.ret ?_)
 refine Y.doneS (resW rfl .g3 ag_27 .z sz_27) (.c .g1 (.c .g1 .n)) ?_
 exact ⟨ah, _, _, ⟨by first | assumption | omega | decide | (simp <;> omega), by first | assumption | omega | decide | (simp <;> omega)⟩, rfl, rfl⟩

end Go.Proofs.YtmejbfmhaoilmaaGreat

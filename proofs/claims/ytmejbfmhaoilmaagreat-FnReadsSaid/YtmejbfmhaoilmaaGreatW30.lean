/- What is proved: contracts of functions, one a function. No condition. -/
import Derived.Test.YtmejbfmhaoilmaaGreatBase1
import Derived.Test.YtmejbfmhaoilmaaGreatW24
import Derived.Test.YtmejbfmhaoilmaaGreatBase2
namespace Go.Proofs.YtmejbfmhaoilmaaGreat
open Go Go.RowKit
set_option linter.unusedVariables false
set_option linter.unusedSimpArgs false
set_option maxHeartbeats 1000000
set_option maxRecDepth 20000
theorem c_89 {w0 : World} {S0 : Bs} {x : (List UInt8)} {v0 : Value} (h0 : kSl_5.ro w0 (FF w0 S0) x [v0])  :
    Calls Tryz.prog 89 #[v0] w0 (TriPost w0 S0 (fun r l => l = [ownA kSl_5 x [r]])) := by
 obtain ⟨A0, c0, rfl, ae, af, ag, aa⟩ := ro_form h0
 refine Y.enter (N := 8) Tryz.func89 rfl rfl (by simp) [(0, .slice A0 x.length c0)] (by simp) (l0 := []) trivial ?_
 refine Y.seq (Y.region (Y.ql rfl (q_assign rfl .c) (Y.nt (Y.seq (Y.seq (Y.region (Y.mv rfl .g1 ?_)))))))
 refine Y.ql rfl (q_eqnil rfl u_22 (.t .z) .c) (Y.nt ?_)
 refine Y.cond (.t .z) (fun b2 => ?_) (fun b2 => ?_)
 refine Y.seq (Y.region (Y.er .g2 (Y.ql rfl (q_assign rfl .c) (Y.nt (Y.ret (Y.thenR ?_))))))
 refine Y.add (c := ownA kSl_5 [] [.slice none 0 0]) (fun w S => own_nil w S none) ?_
 refine Y.ceq .z (nil_of aa (by assumption)) ?_
 refine Y.doneS (res1 rfl .z) (.c .z .n) ?_
 rfl
 refine Y.skip (Y.then_ (Y.seq (Y.region ?_)))
 refine Y.el rfl (e_buildNil rfl u_22 (inz inf_5)) ?_
 rintro _ _ ⟨g4, rfl, rfl⟩
 refine Y.mv rfl .g4 ?_
 refine Y.add (c := ownA kSl_5 ([] : (List UInt8)) [.slice (some ⟨g4, 0, none⟩) 0 0]) (fun w S => own_nil w S _) ?_
 refine Y.el rfl (e_appendF (flat_scalar _ _ _) rfl u_22 inf_5 rfl (.t .g1) (.t .z) (.c .z .n) (fun w1 S1 tr => tr.ctx h0) (by first | omega | (simp only [List.length_append, List.length_take, List.length_nil, List.length_cons]; omega)) (by first | omega | (simp only [List.length_append, List.length_take, List.length_nil, List.length_cons]; omega))) ?_
 rintro _ _ rfl
 refine Y.ceq .z (List.nil_append _) ?_
 refine Y.know (WS.oform .z) ?_
 rintro ⟨ah, ai, rfl, ab, ac, ad⟩
 refine Y.er .g5 (Y.as rfl .z (Y.nt (Y.ret ?_)))
 refine Y.doneS (res1 rfl .z) (.c .z .n) ?_
 rfl

end Go.Proofs.YtmejbfmhaoilmaaGreat

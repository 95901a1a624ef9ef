/- What is proved: contracts of functions, one a function. No condition. -/
import Derived.Test.YtmejbfmhaoilmaaGreatBase1
import Derived.Test.YtmejbfmhaoilmaaGreatW22
import Derived.Test.YtmejbfmhaoilmaaGreatW9
namespace Go.Proofs.YtmejbfmhaoilmaaGreat
open Go Go.RowKit
set_option linter.unusedVariables false
set_option linter.unusedSimpArgs false
set_option maxHeartbeats 1000000
set_option maxRecDepth 20000
theorem aLx {w0:World}{S0:Bs}{xs:(List aF)}{v0:Value} (h0:aP.ro w0 (FF w0 S0) xs [v0]) (a:Int):
    Calls Tryz.prog 38 #[v0,.int .i64 a] w0 (aJ w0 S0 (aJt (lD xs a))):=by
 obtain⟨A0,c0,rfl,aa,ab,ac,ad⟩:=aH h0
 refine Y.enter (N:=23) Tryz.func38 rfl rfl (by simp) [(0,.slice A0 xs.length c0),(1,.int .i64 a)] (by simp) (l0:= []) trivial ?_
 refine Y.seq (Y.region ?_)
 refine Y.el rfl (bL rfl aKv rfl rfl) ?_
 rintro _ _ ⟨g2,rfl,rfl⟩
 refine Y.nt (Y.seq (Y.seq (Y.region (Y.mv rfl .g1 ?_))))
 refine Y.cl rfl rfl Tryz.func83 rfl rfl (bT (.t .z)) .n (fun _ _ hs tr=>aM2 (tr.ctx h0)) ?_
 rintro _ _ ⟨rfl,rfl⟩
 refine Y.m .n ?_
 refine Y.as rfl .z (Y.nt (Y.seq (Y.region (Y.mv rfl .z (Y.ql rfl (cU rfl (.t .z) .c) (Y.nt ?_))))))
 refine Y.ad (.t .z) (fun b3=> ?_) (fun b3=> ?_)
 refine Y.seq (Y.region (Y.mv rfl .g2 (Y.ql rfl (aZ (cs:= [.int .i64 (bJ xs),.int .i64 0]) rfl zG (pv1 (.t .z)) rfl) ?_)))
 refine Y.es (aD rfl) rfl (esW rfl (.t .g7) (.t .z) .z pZ rfl rfl) ?_
 refine Y.nt (Y.ret (Y.r ?_))
 refine Y.i (dD rfl .g7 zD .z pZ) .n ?_
 first |(rw [yD (by assumption)];exact⟨rfl,rfl⟩) |(rw [wZ (by assumption) (by assumption)];exact⟨rfl,rfl⟩) |(rw [pM (by assumption) (by assumption)];exact⟨rfl,rfl⟩)
 refine Y.skip (Y.g (Y.seq (Y.seq (Y.region (Y.mv rfl .g7 (Y.mv rfl .g7 ?_))))))
 refine Y.cl rfl rfl Tryz.func85 rfl rfl (bT (.t .z)) .n (fun _ _ hs tr=>aJn (tr.ctx h0)) ?_
 rintro _ _ ⟨rfl,rfl⟩
 refine Y.m .n ?_
 refine Y.ql rfl (jL (c:=(xs.length:Int) - 1) rfl (.t .z) .c (wr (by omega) (by omega) (by omega))) ?_
 refine Y.cl rfl rfl Tryz.func84 rfl rfl (dX (.t .g3) .c (.t .z)) .n (fun _ _ hs tr=>yY _ _ _) ?_
 rintro _ _ ⟨rfl,rfl⟩
 refine Y.m .n ?_
 refine Y.ql rfl (fN rfl (.t .z)) (Y.nt ?_)
 refine Y.ad (.t .z) (fun b4=> ?_) (fun b4=> ?_)
 refine Y.seq (Y.region (Y.ql rfl (aZ (cs:= [.int .i64 3,.int .i64 0]) rfl zG (pv1 .c) rfl) ?_))
 refine Y.es (aD rfl) rfl (esW rfl (.t .g12) (.t .z) .z pZ rfl rfl) ?_
 refine Y.nt (Y.ret (Y.r ?_))
 refine Y.i (dD rfl .g12 zD .z pZ) .n ?_
 first |(rw [yD (by assumption)];exact⟨rfl,rfl⟩) |(rw [wZ (by assumption) (by assumption)];exact⟨rfl,rfl⟩) |(rw [pM (by assumption) (by assumption)];exact⟨rfl,rfl⟩)
 refine Y.skip (Y.g (Y.seq (Y.region (Y.mv rfl .g12 (Y.mv rfl .g14 ?_)))))
 refine Y.cl rfl rfl Tryz.func86 rfl rfl (aX (.t .g1) (.t .z)) .n (fun _ _ hs tr=>aMx (tr.ctx h0) _ (by first | assumption | exact pH (by assumption) _ |(simp only [bH] at *;assumption))) ?_
 rintro _ _ ⟨rfl,rfl⟩
 refine Y.m .n ?_
 refine Y.ql rfl (aZ (cs:= [.int .i64 0,.int .i64 (eL xs a:Int)]) rfl zG (pv1 (.t .z)) rfl) ?_
 refine Y.es (aD rfl) rfl (esW rfl (.t .g15) (.t .z) .z pZ rfl rfl) ?_
 refine Y.nt (Y.ret ?_)
 refine Y.i (dD rfl .g15 zD .z pZ) .n ?_
 first |(rw [yD (by assumption)];exact⟨rfl,rfl⟩) |(rw [wZ (by assumption) (by assumption)];exact⟨rfl,rfl⟩) |(rw [pM (by assumption) (by assumption)];exact⟨rfl,rfl⟩)

end Go.Proofs.YtmejbfmhaoilmaaGreat

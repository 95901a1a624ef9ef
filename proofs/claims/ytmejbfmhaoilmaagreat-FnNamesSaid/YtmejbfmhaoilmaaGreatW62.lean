/- What is proved: contracts of functions, one a function. No condition. -/
import Derived.Test.YtmejbfmhaoilmaaGreatBase1
import Derived.Test.YtmejbfmhaoilmaaGreatW61
namespace Go.Proofs.YtmejbfmhaoilmaaGreat
open Go Go.RowKit
set_option linter.unusedVariables false
set_option linter.unusedSimpArgs false
set_option maxHeartbeats 1000000
set_option maxRecDepth 20000
theorem aMu {w0:World}{S0:Bs} (s:ByteArray) (ai:s.size≤140737488351232):
    Calls Tryz.prog 194 #[.string s] w0 (aJ w0 S0 (fun r l=>∃v:Value,r= .tuple #[v,.string (qS s),.int .i64 (kS s)]∧l= [aG fB (gS s) [v]])):=by
 refine Y.enter (N:=29) Tryz.func194 rfl rfl (by simp) [(0,.string s)] (by simp) (l0:= []) trivial ?_
 refine Y.seq (Y.region (Y.ql rfl (aA rfl .c) (Y.ql rfl (aA rfl .c) (Y.ql rfl (aA rfl .c) (Y.nt (Y.seq (Y.region ?_)))))))
 refine Y.mv rfl .g3 ?_
 refine Y.cl rfl rfl Tryz.func196 rfl rfl (bT (.t .z)) .n (fun _ _ hs tr=>aGl _ (by first | assumption | omega)) ?_
 rintro _ _ ⟨v1,rfl,rfl⟩
 refine Y.m (.c .n) ?_
 refine Y.h (WS.a .z) ?_
 rintro⟨ad,aa,rfl,ae,af,ag⟩
 have ab:=(pJ s).1
 refine Y.mv rfl .z (Y.ql rfl (cC (v:= .slice ad (dY s).length aa) rfl (.t .z) rfl) (Y.ql rfl (cC (v:= .int .i64 (fV s)) rfl (.t .g1) rfl) (Y.as rfl .g1 (Y.as rfl .g1 (Y.nt (Y.seq (Y.seq ?_)))))))
 refine Y.region (Y.mv rfl .z (Y.ql rfl (cU rfl (.t .z) .c) (Y.nt ?_)))
 refine Y.ad (.t .z) (fun b4=> ?_) (fun b4=> ?_)
 refine Y.seq (Y.region (Y.mv rfl .g2 (Y.er .g12 (Y.ql rfl (aA rfl .c) (Y.er .g12 (Y.ql rfl (aA rfl .c) (Y.er .g12 (Y.as rfl .g2 ?_))))))))
 refine Y.nt (Y.ret (Y.r ?_))
 refine Y.add (c:=aG fB [] [.slice none 0 0]) (fun w S=>aN w S none) ?_
 refine Y.i (aC8 rfl .g2 .g1 .z) (.c .z .n) ?_
 first |(have hh:=aF9 (s:=s) (by assumption);rw [hh.1,hh.2.1,hh.2.2];exact⟨_,rfl,rfl⟩) |(have hh:=aG5 (s:=s) (by assumption) (aBb.1 (by assumption));rw [hh.1,hh.2.1,hh.2.2];exact⟨_,rfl,rfl⟩)
 refine Y.skip (Y.g (Y.seq (Y.seq (Y.region (Y.mv rfl .g3 (Y.ql rfl (bM rfl hZ (.t .z)) (Y.ql rfl (bZ rfl (.t .z) .c) (Y.nil ?_))))))))
 refine Y.g ?_
 refine Y.u (.t .z) (fun b6=> ?_) (fun b6=> ?_)
 refine Y.seq (Y.region (Y.er .g14 (Y.ql rfl (aA rfl .c) (Y.er .g14 (Y.ql rfl (aA rfl .c) (Y.er .g14 (Y.ql rfl (aA rfl .c) (Y.nil ?_))))))))
 refine Y.g (Y.ret (Y.r ?_))
 refine Y.add (c:=aG fB [] [.slice none 0 0]) (fun w S=>aN w S none) ?_
 refine Y.i (aC8 rfl .g2 .g1 .z) (.c .z .n) ?_
 first |(have hh:=aF9 (s:=s) (by assumption);rw [hh.1,hh.2.1,hh.2.2];exact⟨_,rfl,rfl⟩) |(have hh:=aG5 (s:=s) (by assumption) (aBb.1 (by assumption));rw [hh.1,hh.2.1,hh.2.2];exact⟨_,rfl,rfl⟩)
 refine Y.skip (Y.g (Y.seq ?_))
 refine Y.dr .z 13 gG ?_
 refine Y.sc (qs 0 13++ [(13,false)]) (by kernel_rfl) ?_
 refine Y.dm rfl rfl .z .g6 (Y.dm rfl rfl .z .g7 (Y.dk rfl rfl .z (bM rfl hZ (.t .z)) ?_))
 refine Y.dk rfl rfl .z (jL (c:=((dY s).length:Int) - 1) rfl (.t .z) .c (wr (by omega) (by omega) (by omega))) ?_
 refine Y.eq .z (congrArg (Value.int .i64) (show((dY s).length:Int) - 1=((Int.toNat (((dY s).length:Int) - 1):Nat):Int) by omega)) ?_
 refine Y.dk rfl rfl .z (rB (b:=Int.toNat (((dY s).length:Int) - 1)) rfl hZ tF (.t .g3) (.t .z) (by omega)) ?_
 refine Y.dm rfl rfl .z .g11 (Y.dm rfl rfl .z .g12 (Y.dk rfl rfl .z (bM rfl hZ (.t .z)) ?_))
 refine Y.dk rfl rfl .z (jL (c:=((dY s).length:Int) - 1) rfl (.t .z) .c (wr (by omega) (by omega) (by omega))) ?_
 refine Y.h (WS.i .z (by omega)) ?_
 rintro⟨ah,rfl⟩
 refine Y.dk rfl rfl .z (aC (j:=Int.toNat (((dY s).length:Int) - 1)) rfl hZ tF (.t .g3) (.t .z) (by omega) (by omega)) ?_
 obtain⟨x9,ac⟩:=aI (xs:=dY s) (j:=Int.toNat (((dY s).length:Int) - 1)) (by omega)
 refine Y.dk rfl rfl .z (aL rfl iR (.t .z) (WS.m .z ac)) (Y.er (.s16 .g9) (Y.dk rfl rfl .z (aA rfl (.t .g6)) (Y.er (.s16 .g9) (Y.dk rfl rfl .z (aA rfl (.t .g1)) (Y.er (.s16 .g9) ?_)))))
 refine Y.q (aE rfl rfl) rfl (by decide) rfl (aA rfl .c) ?_
 refine Y.sl rfl ?_
 refine Y.aa ?_
 refine Y.ag (by kernel_rfl) ?_
 refine Y.g (Y.ret ?_)
 refine Y.v (c:=aG fB (List.take (Int.toNat (((dY s).length:Int) - 1)) (dY s)) [.slice (some ah) (Int.toNat (((dY s).length:Int) - 1)) aa]) (.c .z .n) (aB7 (by omega)) ?_
 refine Y.i (aC8 rfl .g2 .g1 .z) (.c .z .n) ?_
 have hh:=aKw (s:=s) (by assumption) (fun e=>absurd (aBb.2 e) (by assumption));rw [hh.1,hh.2.1,hh.2.2 _ _ (by omega) ac];exact⟨_,rfl,by rw [show Int.toNat (((dY s).length:Int) - 1)=(dY s).length - 1 by omega]⟩

end Go.Proofs.YtmejbfmhaoilmaaGreat

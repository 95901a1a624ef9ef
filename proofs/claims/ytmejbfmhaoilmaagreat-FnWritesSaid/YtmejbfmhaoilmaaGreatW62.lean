/- What is proved: contracts of functions, one a function. No condition. -/
import Derived.Test.YtmejbfmhaoilmaaGreatBase1
import Derived.Test.YtmejbfmhaoilmaaGreatW61
namespace Go.Proofs.YtmejbfmhaoilmaaGreat
open Go Go.RowKit
set_option linter.unusedVariables false
set_option linter.unusedSimpArgs false
set_option maxHeartbeats 1000000
set_option maxRecDepth 20000
theorem aLd {w0:World}{S0:Bs} (s:ByteArray) (ai:s.size≤140737488351232):
    Calls Tryz.prog 194 #[.string s] w0 (aJ w0 S0 (fun r l=>∃v:Value,r= .tuple #[v,.string (qC s),.int .i64 (kZ s)]∧l= [aG fM (gQ s) [v]])):=by
 refine Y.enter (N:=29) Tryz.func194 rfl rfl (by simp) [(0,.string s)] (by simp) (l0:= []) trivial ?_
 refine Y.seq (Y.region (Y.ql rfl (aA rfl .c) (Y.ql rfl (aA rfl .c) (Y.ql rfl (aA rfl .c) (Y.nt (Y.seq (Y.region ?_)))))))
 refine Y.mv rfl .g3 ?_
 refine Y.cl rfl rfl Tryz.func196 rfl rfl (bH (.t .z)) .n (fun _ _ hs tr=>aFu _ (by first | assumption | omega)) ?_
 rintro _ _ ⟨v1,rfl,rfl⟩
 refine Y.m (.c .n) ?_
 refine Y.h (WS.a .z) ?_
 rintro⟨ad,aa,rfl,ae,af,ag⟩
 have ab:=(pT s).1
 refine Y.mv rfl .z (Y.ql rfl (bK (v:= .slice ad (dV s).length aa) rfl (.t .z) rfl) (Y.ql rfl (bK (v:= .int .i64 (fN s)) rfl (.t .g1) rfl) (Y.as rfl .g1 (Y.as rfl .g1 (Y.nt (Y.seq (Y.seq ?_)))))))
 refine Y.region (Y.mv rfl .z (Y.ql rfl (bY rfl (.t .z) .c) (Y.nt ?_)))
 refine Y.ac (.t .z) (fun b4=> ?_) (fun b4=> ?_)
 refine Y.seq (Y.region (Y.mv rfl .g2 (Y.er .g12 (Y.ql rfl (aA rfl .c) (Y.er .g12 (Y.ql rfl (aA rfl .c) (Y.er .g12 (Y.as rfl .g2 ?_))))))))
 refine Y.nt (Y.ret (Y.j ?_))
 refine Y.add (c:=aG fM [] [.slice none 0 0]) (fun w S=>aL w S none) ?_
 refine Y.i (aCi rfl .g2 .g1 .z) (.c .z .n) ?_
 first |(have hh:=aGw (s:=s) (by assumption);rw [hh.1,hh.2.1,hh.2.2];exact⟨_,rfl,rfl⟩) |(have hh:=aF9 (s:=s) (by assumption) (zO.1 (by assumption));rw [hh.1,hh.2.1,hh.2.2];exact⟨_,rfl,rfl⟩)
 refine Y.skip (Y.g (Y.seq (Y.seq (Y.region (Y.mv rfl .g3 (Y.ql rfl (bE rfl jQ (.t .z)) (Y.ql rfl (bU rfl (.t .z) .c) (Y.nil ?_))))))))
 refine Y.g ?_
 refine Y.u (.t .z) (fun b6=> ?_) (fun b6=> ?_)
 refine Y.seq (Y.region (Y.er .g14 (Y.ql rfl (aA rfl .c) (Y.er .g14 (Y.ql rfl (aA rfl .c) (Y.er .g14 (Y.ql rfl (aA rfl .c) (Y.nil ?_))))))))
 refine Y.g (Y.ret (Y.j ?_))
 refine Y.add (c:=aG fM [] [.slice none 0 0]) (fun w S=>aL w S none) ?_
 refine Y.i (aCi rfl .g2 .g1 .z) (.c .z .n) ?_
 first |(have hh:=aGw (s:=s) (by assumption);rw [hh.1,hh.2.1,hh.2.2];exact⟨_,rfl,rfl⟩) |(have hh:=aF9 (s:=s) (by assumption) (zO.1 (by assumption));rw [hh.1,hh.2.1,hh.2.2];exact⟨_,rfl,rfl⟩)
 refine Y.skip (Y.g (Y.seq ?_))
 refine Y.dr .z 13 gE ?_
 refine Y.sc (qs 0 13++ [(13,false)]) (by kernel_rfl) ?_
 refine Y.dm rfl rfl .z .g6 (Y.dm rfl rfl .z .g7 (Y.dk rfl rfl .z (bE rfl jQ (.t .z)) ?_))
 refine Y.dk rfl rfl .z (jZ (c:=((dV s).length:Int) - 1) rfl (.t .z) .c (wr (by omega) (by omega) (by omega))) ?_
 refine Y.eq .z (congrArg (Value.int .i64) (show((dV s).length:Int) - 1=((Int.toNat (((dV s).length:Int) - 1):Nat):Int) by omega)) ?_
 refine Y.dk rfl rfl .z (nI (b:=Int.toNat (((dV s).length:Int) - 1)) rfl jQ vB (.t .g3) (.t .z) (by omega)) ?_
 refine Y.dm rfl rfl .z .g11 (Y.dm rfl rfl .z .g12 (Y.dk rfl rfl .z (bE rfl jQ (.t .z)) ?_))
 refine Y.dk rfl rfl .z (jZ (c:=((dV s).length:Int) - 1) rfl (.t .z) .c (wr (by omega) (by omega) (by omega))) ?_
 refine Y.h (WS.g .z (by omega)) ?_
 rintro⟨ah,rfl⟩
 refine Y.dk rfl rfl .z (aB (j:=Int.toNat (((dV s).length:Int) - 1)) rfl jQ vB (.t .g3) (.t .z) (by omega) (by omega)) ?_
 obtain⟨x9,ac⟩:=aI (xs:=dV s) (j:=Int.toNat (((dV s).length:Int) - 1)) (by omega)
 refine Y.dk rfl rfl .z (aP rfl kY (.t .z) (WS.i .z ac)) (Y.er (.s16 .g9) (Y.dk rfl rfl .z (aA rfl (.t .g6)) (Y.er (.s16 .g9) (Y.dk rfl rfl .z (aA rfl (.t .g1)) (Y.er (.s16 .g9) ?_)))))
 refine Y.q (aC rfl rfl) rfl (by decide) rfl (aA rfl .c) ?_
 refine Y.sl rfl ?_
 refine Y.aa ?_
 refine Y.ai (by kernel_rfl) ?_
 refine Y.g (Y.ret ?_)
 refine Y.af (c:=aG fM (List.take (Int.toNat (((dV s).length:Int) - 1)) (dV s)) [.slice (some ah) (Int.toNat (((dV s).length:Int) - 1)) aa]) (.c .z .n) (aB7 (by omega)) ?_
 refine Y.i (aCi rfl .g2 .g1 .z) (.c .z .n) ?_
 have hh:=aJp (s:=s) (by assumption) (fun e=>absurd (zO.2 e) (by assumption));rw [hh.1,hh.2.1,hh.2.2 _ _ (by omega) ac];exact⟨_,rfl,by rw [show Int.toNat (((dV s).length:Int) - 1)=(dV s).length - 1 by omega]⟩

end Go.Proofs.YtmejbfmhaoilmaaGreat

/- What is proved: contracts of functions, one a function. No condition. -/
import Derived.Test.YtmejbfmhaoilmaaGreatBase1
import Derived.Test.YtmejbfmhaoilmaaGreatW90
import Derived.Test.YtmejbfmhaoilmaaGreatW57
import Derived.Test.YtmejbfmhaoilmaaGreatW33
import Derived.Test.YtmejbfmhaoilmaaGreatW35
import Derived.Test.YtmejbfmhaoilmaaGreatW39
import Derived.Test.YtmejbfmhaoilmaaGreatW25
import Derived.Test.YtmejbfmhaoilmaaGreatW6
import Derived.Test.YtmejbfmhaoilmaaGreatTypesA
import Derived.Test.YtmejbfmhaoilmaaGreatBase2
namespace Go.Proofs.YtmejbfmhaoilmaaGreat
open Go Go.RowKit
set_option linter.unusedVariables false
set_option linter.unusedSimpArgs false
set_option maxHeartbeats 1000000
set_option maxRecDepth 20000
theorem c_7 {w0:World}{S0:Bs}{cd:(List UInt8)}{v0:Value} (h0:cX.ro w0 (FF w0 S0) cd [v0]):
    Calls Tryz.prog 7 #[v0] w0 (aJ w0 S0 (fun r l=>r= .bool true∧l= [])):=by
 obtain⟨A0,c0,rfl,cj,ck,cm,cn⟩:=aH h0
 refine Y.enter (N:=141) Tryz.func7 rfl rfl (by simp) [(0,.slice A0 cd.length c0)] (by simp) (l0:= []) trivial ?_
 refine Y.seq (Y.region (Y.ql rfl (aA rfl .c) (Y.nt (Y.seq (Y.seq (Y.region (Y.mv rfl .g1 ?_)))))))
 refine Y.cl rfl rfl Tryz.func8 rfl rfl (bT (.t .z)) .n (fun _ _ hs tr=>c_8 (tr.ctx h0)) ?_
 rintro _ _ ⟨rfl,rfl⟩
 refine Y.m .n ?_
 refine Y.nt ?_
 refine Y.u (.t .z) (fun b2=> ?_) (fun b2=> ?_)
 refine Y.seq (Y.region (Y.er .g2 (Y.ql rfl (aA rfl .c) (Y.nt (Y.ret (Y.r ?_))))))
 refine Y.i (aY rfl .z) .n ?_
 exact⟨rfl,rfl⟩
 refine Y.skip (Y.g (Y.seq (Y.region (Y.mv rfl .g3 ?_))))
 refine Y.cl rfl rfl Tryz.func31 rfl rfl (bT (.t .z)) .n (fun _ _ hs tr=>aNq (tr.ctx h0) (by omega)) ?_
 rintro _ _ ⟨aa,v4,v6,m8,t9,ab,a9,rfl,rfl⟩
 refine Y.m (.c (.c .n)) ?_
 refine Y.h (WS.v .z) ?_
 rintro⟨an,ao,rfl,ba,bb,bc⟩
 refine Y.h (WS.v .g1) ?_
 rintro⟨ap,aq,rfl,bd,be,bf⟩
 refine Y.a1 .z ?_
 intro w0 S0 ar ac ae
 replace h0:=ar h0
 refine Y.a1 .z ?_
 intro w0 S0 al ad af
 replace ac:=al ac
 replace h0:=al h0
 refine Y.mv rfl .z (Y.ql rfl (cC (v:= .agg #[.slice an aa.inodes.length ao,.slice ap aa.data.length aq]) rfl (.t .z) rfl) (Y.ql rfl (cC (v:= .int .i64 m8) rfl (.t .g1) rfl) (Y.ql rfl (cC (v:= .string t9) rfl (.t .g2) rfl) (Y.ql rfl (cC (v:= .int .i64 ab) rfl (.t .g3) rfl) ?_))))
 refine Y.el rfl (bL rfl nF rfl rfl) ?_
 rintro _ _ ⟨g24,rfl,rfl⟩
 refine Y.es (aD rfl) rfl (esW rfl (.t .z) (.t .g4) .z aW rfl rfl) ?_
 refine Y.as rfl .g3 (Y.as rfl .g3 (Y.as rfl .g3 (Y.nt (Y.seq (Y.region (Y.ql rfl (qW rfl bI (.t .g3) .z aW) (Y.mv rfl .g3 ?_)))))))
 refine Y.mv rfl .g3 (Y.mv rfl .g3 ?_)
 refine Y.cl rfl rfl Tryz.func32 rfl rfl (oT (.t .g3) (.t .g2) (.t .g1) (.t .z)) .n (fun _ _ hs tr=>aNz (aM aa (tr.ctx ac) (tr.ctx ad)) _ _ (by first | assumption | omega | exact Nat.le_trans (N0 _ _ (by assumption)) (by decide)) _) ?_
 rintro _ _ ⟨co,cp,rfl,rfl⟩
 refine Y.m (.c (.c .n)) ?_
 refine Y.h (WS.a .z) ?_
 rintro⟨ag,ah,rfl,bg,bh,bi⟩
 refine Y.h (WS.a .g1) ?_
 rintro⟨ai,aj,rfl,bj,bk,bm⟩
 refine Y.el rfl (bL rfl xC rfl rfl) ?_
 rintro _ _ ⟨g31,rfl,rfl⟩
 refine Y.es (aD rfl) rfl (esW rfl (.t .z) (.t .g1) .z fC rfl rfl) ?_
 refine Y.nt (Y.seq (Y.seq (Y.region (Y.fa rfl .z qO (Y.ld rfl cF .z .z (Y.ql rfl (cU rfl (.t .z) .c) (Y.nil ?_)))))))
 refine Y.g ?_
 refine Y.ad (.t .z) (fun bn=> ?_) (fun bn=> ?_)
 refine Y.seq ?_
 refine Y.sel (.c .g1 (.c .g1 (.c .z (.c .z .n)))) ?_
 refine Y.dr .g2 9 gG ?_
 refine Y.sc (qs 0 4++ [(6,true),(7,true),(4,false),(5,true),(8,true),(9,false)]) (by kernel_rfl) ?_
 refine Y.dk rfl rfl .g2 (qW rfl bI (.t .g12) .g1 aW) (Y.dm rfl rfl .g2 .g12 (Y.dm rfl rfl .g2 .g12 (Y.dm rfl rfl .g2 .g12 (Y.df rfl rfl .g2 .g7 qO (Y.dl rfl rfl .g2 cF .z .z ?_)))))
 refine Y.call (aE rfl rfl) rfl (by decide) rfl (bS rfl Tryz.func33 rfl rfl (oT (.t .g5) (.t .g4) (.t .g3) (.t .g2))) .n (fun _ _ hs tr=>aN4 (aM aa (tr.ctx ac) (tr.ctx ad)) _ _ (by first | assumption | omega | exact Nat.le_trans (N0 _ _ (by assumption)) (by decide)) _) ?_
 rintro _ _ ⟨cq,cr,rfl,rfl⟩
 refine Y.m (.c (.c .n)) ?_
 refine Y.h (WS.a .z) ?_
 rintro⟨az,a0,rfl,bo,bp,bq⟩
 refine Y.h (WS.a .g1) ?_
 rintro⟨a1,a2,rfl,br,bs,bt⟩
 refine Y.sk .g4 ?_
 refine Y.dk rfl rfl .g4 (kZ rfl (.t .z) (fun w=>aIv w (.int .i64 ((dB aa m8 t9 ab).code)) (.slice az ((dB aa m8 t9 ab).fs.inodes).length a0) (.slice a1 ((dB aa m8 t9 ab).fs.data).length a2))) (Y.dk rfl rfl .g4 (bZ rfl (.t .z) (.t .g2)) (Y.er (.s16 .g15) ?_))
 refine Y.q (aE rfl rfl) rfl (by decide) rfl (aA rfl (.t .z)) ?_
 refine Y.sl rfl ?_
 refine Y.aa ?_
 refine Y.ag (by kernel_rfl) ?_
 refine Y.g (Y.ret (Y.r ?_))
 refine Y.az (fun l w h=>ae _ _ (af _ _ (h))) ?_
 refine Y.i (aY rfl .z) .n ?_
 first |(focus(contradiction)) | exact⟨rfl,rfl⟩ |(focus(exfalso;omega)) |(focus(exfalso;simp_all;done)) |(focus(refine⟨congrArg Value.bool ?_,rfl⟩;simp_all;done)) |(focus(refine⟨congrArg Value.bool ?_,rfl⟩;simp_all;omega))
 obtain⟨N1,N2,N3,N4,N5,N6,N7,N8,N9,Nb,N0⟩:=aFh bn
 refine Y.skip (Y.g (Y.seq (Y.region (Y.ql rfl (qW rfl bI (.t .g12) .g3 aW) (Y.mv rfl .g12 ?_)))))
 refine Y.cl rfl rfl Tryz.func34 rfl rfl (aX (.t .g1) (.t .z)) .n (fun _ _ hs tr=>aLt (aM aa (tr.ctx ac) (tr.ctx ad)) _) ?_
 rintro _ _ ⟨ct,rfl,rfl⟩
 refine Y.m (.c .n) ?_
 refine Y.h (WS.a .z) ?_
 rintro⟨au,av,rfl,bu,bv,bw⟩
 refine Y.el rfl (bL rfl aHo rfl rfl) ?_
 rintro _ _ ⟨g42,rfl,rfl⟩
 refine Y.es (aD rfl) rfl (esW rfl (.t .z) (.t .g1) .z qU rfl rfl) ?_
 refine Y.nt (Y.seq (Y.seq (Y.region (Y.ql rfl (aA rfl .c) (Y.nt (Y.block ?_))))))
 refine Y.aj (γ:=Nat) (fun k=> [(9,.int .i64 (k:Int)),(8,.pointer (some ⟨g42,0,none⟩)),(7,.pointer (some ⟨g31,0,none⟩)),(6,.int .i64 ab),(5,.string t9),(4,.int .i64 m8),(3,.pointer (some ⟨g24,0,none⟩))]) (fun k=> [cM g42 65 2 1 [.int .i64 ((gT aa m8).code),.slice au ((gT aa m8).names).length av],aG fB ((gT aa m8).names) [.slice au ((gT aa m8).names).length av],cM g31 48 3 1 [.int .i64 ((dB aa m8 t9 ab).code),.slice ag ((dB aa m8 t9 ab).fs.inodes).length ah,.slice ai ((dB aa m8 t9 ab).fs.data).length aj],aG aP ((dB aa m8 t9 ab).fs.inodes) [.slice ag ((dB aa m8 t9 ab).fs.inodes).length ah],aG cG ((dB aa m8 t9 ab).fs.data) [.slice ai ((dB aa m8 t9 ab).fs.data).length aj],cM g24 27 2 1 [.slice an aa.inodes.length ao,.slice ap aa.data.length aq]]) (fun k=>k≤(gT aa m8).names.length) (fun k=>(gT aa m8).names.length - k) 0 (Nat.zero_le _) (.c .z (.c .g1 (.c .g8 (.c .g14 (.c .g15 (.c .g16 (.c (.s16 .g1) .n))))))) (fun _ h=>h.sel (.c .z (.c .z (.c .z (.c .z (.c .z (.c .z .n))))))) ?_
 rintro k hk
 refine Y.seq (Y.seq (Y.region (Y.mv rfl .z (Y.fa rfl .g2 oN (Y.ld rfl xV .z .z (Y.ql rfl (bM rfl hZ (.t .z)) (Y.ql rfl (dJ rfl (.t .g3) (.t .z)) (Y.nil ?_))))))))
 refine Y.g ?_
 refine Y.u (.t .z) (fun b9=> ?_) (fun b9=> ?_)
 refine Y.skip (Y.g (Y.seq (Y.block (Y.seq ?_))))
 refine Y.sel (.c .g1 (.c .g2 (.c .g2 (.c .z (.c .z (.c .z .n)))))) ?_
 refine Y.dr .g3 18 gG ?_
 refine Y.sc (qs 0 7++qs 9 6) (by kernel_rfl) ?_
 refine Y.df rfl rfl .g3 .g7 mK (Y.dk rfl rfl .g3 (lY (cs:= [.slice ag ((dB aa m8 t9 ab).fs.inodes).length ah,.slice ai ((dB aa m8 t9 ab).fs.data).length aj]) rfl bI aW (.t .z) (WS.u .g1 (rE rfl))) (Y.dm rfl rfl .g3 .g12 (Y.df rfl rfl .g3 .g9 oN (Y.dl rfl rfl .g3 xV .z .z (Y.dm rfl rfl .g3 .g10 ?_)))))
 refine Y.h (WS.i .z (by omega)) ?_
 rintro⟨ca,rfl⟩
 refine Y.dk rfl rfl .g3 (aC (j:=k) rfl hZ tF (.t .g1) (.t .z) rfl (by omega)) ?_
 refine Y.dk rfl rfl .g3 (qW rfl bI (.t (.s16 .g2)) .g2 aW) (Y.dm rfl rfl .g3 (.s16 .g2) (Y.df rfl rfl .g3 .g15 oN (Y.dl rfl rfl .g3 xV .z .z (Y.dm rfl rfl .g3 .g16 ?_))))
 refine Y.dk rfl rfl .g3 (aC (j:=k) rfl hZ tF (.t .g1) (.t .z) rfl (by omega)) ?_
 refine Y.aa ?_
 refine Y.au (i:=7) (j:=15) (by kernel_rfl) ?_ ?_
 obtain⟨bx,ak⟩:=aI (xs:=(gT aa m8).names) (j:=k) (by omega)
 refine Y.q (aE rfl rfl) rfl (by decide) rfl (aL rfl iR (.t .g6) (WS.m .z ak)) ?_
 refine Y.sk .g3 ?_
 refine Y.aa ?_
 refine Y.sc [] (by kernel_rfl) ?_
 refine Y.aa ?_
 refine Y.au (i:=8) (j:=15) (by kernel_rfl) ?_ ?_
 refine Y.call (aE rfl rfl) rfl (by decide) rfl (bS rfl Tryz.func35 rfl rfl (dX (.t .g12) (.t .g11) (.t .z))) .n (fun _ _ hs tr=>aDb (aM ((dB aa m8 t9 ab).fs) (tr.own .g1) (tr.own .g2)) _ _ (by first | assumption | omega | exact Nat.le_trans (N0 _ _ (by assumption)) (by decide))) ?_
 rintro _ _ ⟨rfl,rfl⟩
 refine Y.m .n ?_
 refine Y.sk .g3 ?_
 refine Y.aa ?_
 refine Y.sc [(15,false),(16,false),(17,true)] (by kernel_rfl) ?_
 obtain⟨cb,aw⟩:=aI (xs:=(gT aa m8).names) (j:=k) (by omega)
 refine Y.q (aE rfl rfl) rfl (by decide) rfl (aL rfl iR (.t .g2) (WS.m .z aw)) ?_
 refine Y.sk .g3 ?_
 refine Y.call (aE rfl rfl) rfl (by decide) rfl (bS rfl Tryz.func35 rfl rfl (dX (.t .g8) (.t .g7) (.t .z))) .n (fun _ _ hs tr=>aDb (aM aa (tr.ctx ac) (tr.ctx ad)) _ _ (by first | assumption | omega | exact Nat.le_trans (N0 _ _ (by assumption)) (by decide))) ?_
 rintro _ _ ⟨rfl,rfl⟩
 refine Y.m .n ?_
 refine Y.sk .g3 ?_
 refine Y.dk rfl rfl .g3 (uB rfl (vL (oE ((dB aa m8 t9 ab).fs) m8 bx) (oE aa m8 cb)) vG (.t .g2) (.t .z)) (Y.aa ?_)
 refine Y.ag (by kernel_rfl) ?_
 refine Y.g ?_
 refine Y.ad (.t .z) (fun cc=> ?_) (fun cc=> ?_)
 refine Y.seq (Y.region (Y.ql rfl (aA rfl .c) (Y.nt (Y.ret (Y.y (Y.r (Y.r ?_)))))))
 refine Y.y (Y.r ?_)
 refine Y.az (fun l w h=>ae _ _ (af _ _ (h))) ?_
 refine Y.i (aY rfl .z) .n ?_
 first |(focus(contradiction)) |(focus(obtain rfl:=Option.some.inj (ak.symm.trans aw);exact absurd (N2 _ _ ak) (by assumption))) | exact⟨rfl,rfl⟩ |(focus(exfalso;omega)) |(focus(exfalso;simp_all;done)) |(focus(refine⟨congrArg Value.bool ?_,rfl⟩;simp_all;done)) |(focus(refine⟨congrArg Value.bool ?_,rfl⟩;simp_all;omega))
 refine Y.skip (Y.ac (Y.g (Y.region (Y.mv rfl (.s16 .g7) ?_))))
 refine Y.ql rfl (bQ (c:=((k+1:Nat):Int)) rfl (.t .z) .c (wr (by omega) (by omega) (by omega))) ?_
 refine Y.er (.s16 .g9) (Y.as rfl .z (Y.nil ?_))
 refine Y.ae (k+1) (by omega) (by first | omega |(dsimp only;omega)) (.c .z (.c (.s16 .g10) (.c (.s16 .g11) (.c (.s16 .g12) (.c (.s16 .g13) (.c (.s16 .g14) (.c (.s16 .g15) .n))))))) (fun _ h=>h.sel (.c .g3 (.c .z (.c .g2 (.c .z (.c .z (.c .z .n)))))))
 obtain⟨ce,ax⟩:=aI (xs:=(gT aa m8).names) (j:=k) (by omega)
 refine Y.q (aE rfl rfl) rfl (by decide) rfl (aL rfl iR (.t .g1) (WS.m .z ax)) ?_
 refine Y.sk .g3 ?_
 refine Y.aa ?_
 refine Y.sc [(8,false),(16,false),(17,true)] (by kernel_rfl) ?_
 refine Y.call (aE rfl rfl) rfl (by decide) rfl (bS rfl Tryz.func35 rfl rfl (dX (.t .g13) (.t .g12) (.t .g1))) .n (fun _ _ hs tr=>aDb (aM ((dB aa m8 t9 ab).fs) (tr.own .g1) (tr.own .g2)) _ _ (by first | assumption | omega | exact Nat.le_trans (N0 _ _ (by assumption)) (by decide))) ?_
 rintro _ _ ⟨rfl,rfl⟩
 refine Y.m .n ?_
 refine Y.sk .g3 ?_
 refine Y.call (aE rfl rfl) rfl (by decide) rfl (bS rfl Tryz.func35 rfl rfl (dX (.t .g8) (.t .g7) (.t .g1))) .n (fun _ _ hs tr=>aDb (aM aa (tr.ctx ac) (tr.ctx ad)) _ _ (by first | assumption | omega | exact Nat.le_trans (N0 _ _ (by assumption)) (by decide))) ?_
 rintro _ _ ⟨rfl,rfl⟩
 refine Y.m .n ?_
 refine Y.sk .g3 ?_
 refine Y.dk rfl rfl .g3 (uB rfl (vL (oE ((dB aa m8 t9 ab).fs) m8 bx) (oE aa m8 ce)) vG (.t .g1) (.t .z)) (Y.aa ?_)
 refine Y.ag (by kernel_rfl) ?_
 refine Y.g ?_
 refine Y.ad (.t .z) (fun cf=> ?_) (fun cf=> ?_)
 refine Y.seq (Y.region (Y.ql rfl (aA rfl .c) (Y.nt (Y.ret (Y.y (Y.r (Y.r ?_)))))))
 refine Y.y (Y.r ?_)
 refine Y.az (fun l w h=>ae _ _ (af _ _ (h))) ?_
 refine Y.i (aY rfl .z) .n ?_
 first |(focus(contradiction)) |(focus(obtain rfl:=Option.some.inj (ak.symm.trans ax);exact absurd (N2 _ _ ak) (by assumption))) | exact⟨rfl,rfl⟩ |(focus(exfalso;omega)) |(focus(exfalso;simp_all;done)) |(focus(refine⟨congrArg Value.bool ?_,rfl⟩;simp_all;done)) |(focus(refine⟨congrArg Value.bool ?_,rfl⟩;simp_all;omega))
 refine Y.skip (Y.ac (Y.g (Y.region (Y.mv rfl (.s16 .g7) ?_))))
 refine Y.ql rfl (bQ (c:=((k+1:Nat):Int)) rfl (.t .z) .c (wr (by omega) (by omega) (by omega))) ?_
 refine Y.er (.s16 .g9) (Y.as rfl .z (Y.nil ?_))
 refine Y.ae (k+1) (by omega) (by first | omega |(dsimp only;omega)) (.c .z (.c (.s16 .g10) (.c (.s16 .g11) (.c (.s16 .g12) (.c (.s16 .g13) (.c (.s16 .g14) (.c (.s16 .g15) .n))))))) (fun _ h=>h.sel (.c .g3 (.c .z (.c .g2 (.c .z (.c .z (.c .z .n)))))))
 obtain⟨cg,am⟩:=aI (xs:=(gT aa m8).names) (j:=k) (by omega)
 refine Y.q (aE rfl rfl) rfl (by decide) rfl (aL rfl iR (.t .z) (WS.m .z am)) ?_
 refine Y.sk .g3 ?_
 refine Y.aa ?_
 refine Y.sc [(7,false),(8,false),(16,false),(17,true)] (by kernel_rfl) ?_
 obtain⟨ch,ay⟩:=aI (xs:=(gT aa m8).names) (j:=k) (by omega)
 refine Y.q (aE rfl rfl) rfl (by decide) rfl (aL rfl iR (.t .g7) (WS.m .z ay)) ?_
 refine Y.sk .g3 ?_
 refine Y.call (aE rfl rfl) rfl (by decide) rfl (bS rfl Tryz.func35 rfl rfl (dX (.t .g13) (.t .g12) (.t .z))) .n (fun _ _ hs tr=>aDb (aM ((dB aa m8 t9 ab).fs) (tr.own .g1) (tr.own .g2)) _ _ (by first | assumption | omega | exact Nat.le_trans (N0 _ _ (by assumption)) (by decide))) ?_
 rintro _ _ ⟨rfl,rfl⟩
 refine Y.m .n ?_
 refine Y.sk .g3 ?_
 refine Y.call (aE rfl rfl) rfl (by decide) rfl (bS rfl Tryz.func35 rfl rfl (dX (.t .g8) (.t .g7) (.t .g2))) .n (fun _ _ hs tr=>aDb (aM aa (tr.ctx ac) (tr.ctx ad)) _ _ (by first | assumption | omega | exact Nat.le_trans (N0 _ _ (by assumption)) (by decide))) ?_
 rintro _ _ ⟨rfl,rfl⟩
 refine Y.m .n ?_
 refine Y.sk .g3 ?_
 refine Y.dk rfl rfl .g3 (uB rfl (vL (oE ((dB aa m8 t9 ab).fs) m8 ch) (oE aa m8 cg)) vG (.t .g1) (.t .z)) (Y.aa ?_)
 refine Y.ag (by kernel_rfl) ?_
 refine Y.g ?_
 refine Y.ad (.t .z) (fun ci=> ?_) (fun ci=> ?_)
 refine Y.seq (Y.region (Y.ql rfl (aA rfl .c) (Y.nt (Y.ret (Y.y (Y.r (Y.r ?_)))))))
 refine Y.y (Y.r ?_)
 refine Y.az (fun l w h=>ae _ _ (af _ _ (h))) ?_
 refine Y.i (aY rfl .z) .n ?_
 first |(focus(contradiction)) |(focus(obtain rfl:=Option.some.inj (am.symm.trans ay);exact absurd (N2 _ _ am) (by assumption))) | exact⟨rfl,rfl⟩ |(focus(exfalso;omega)) |(focus(exfalso;simp_all;done)) |(focus(refine⟨congrArg Value.bool ?_,rfl⟩;simp_all;done)) |(focus(refine⟨congrArg Value.bool ?_,rfl⟩;simp_all;omega))
 refine Y.skip (Y.ac (Y.g (Y.region (Y.mv rfl (.s16 .g7) ?_))))
 refine Y.ql rfl (bQ (c:=((k+1:Nat):Int)) rfl (.t .z) .c (wr (by omega) (by omega) (by omega))) ?_
 refine Y.er (.s16 .g9) (Y.as rfl .z (Y.nil ?_))
 refine Y.ae (k+1) (by omega) (by first | omega |(dsimp only;omega)) (.c .z (.c (.s16 .g10) (.c (.s16 .g11) (.c (.s16 .g12) (.c (.s16 .g13) (.c (.s16 .g14) (.c (.s16 .g15) .n))))))) (fun _ h=>h.sel (.c .g3 (.c .z (.c .g2 (.c .z (.c .z (.c .z .n)))))))
 refine Y.exit (Y.ab (Y.ab (Y.ai (Y.g (Y.seq (Y.region (Y.fa rfl .g7 mK (Y.ql rfl (lY (cs:= [.slice ag ((dB aa m8 t9 ab).fs.inodes).length ah,.slice ai ((dB aa m8 t9 ab).fs.data).length aj]) rfl bI aW (.t .z) (WS.u .g2 (rE rfl))) ?_))))))))
 refine Y.mv rfl .g12 (Y.mv rfl .g12 ?_)
 refine Y.cl rfl rfl Tryz.func36 rfl rfl (dX (.t .g2) (.t .g1) (.t .z)) .n (fun _ _ hs tr=>aNp (aM ((dB aa m8 t9 ab).fs) (tr.own .g3) (tr.own .g4)) _ _ (by first | assumption | omega | exact Nat.le_trans (N0 _ _ (by assumption)) (by decide))) ?_
 rintro _ _ ⟨cu,cv,rfl,rfl⟩
 refine Y.m (.c (.c .n)) ?_
 refine Y.h (WS.a .z) ?_
 rintro⟨a3,a4,rfl,bz,b0,b1⟩
 refine Y.h (WS.a .g1) ?_
 rintro⟨a5,a6,rfl,b3,b4,b5⟩
 refine Y.el rfl (bL rfl xC rfl rfl) ?_
 rintro _ _ ⟨g59,rfl,rfl⟩
 refine Y.es (aD rfl) rfl (esW rfl (.t .z) (.t .g1) .z fC rfl rfl) ?_
 refine Y.nt (Y.seq (Y.region (Y.fa rfl .g13 mK (Y.ql rfl (lY (cs:= [.slice ag ((dB aa m8 t9 ab).fs.inodes).length ah,.slice ai ((dB aa m8 t9 ab).fs.data).length aj]) rfl bI aW (.t .z) (WS.u .g5 (rE rfl))) (Y.mv rfl (.s16 .g2) (Y.mv rfl (.s16 .g2) ?_))))))
 refine Y.cl rfl rfl Tryz.func35 rfl rfl (dX (.t .g2) (.t .g1) (.t .z)) .n (fun _ _ hs tr=>aDb (aM ((dB aa m8 t9 ab).fs) (tr.own .g6) (tr.own .g7)) _ _ (by first | assumption | omega | exact Nat.le_trans (N0 _ _ (by assumption)) (by decide))) ?_
 rintro _ _ ⟨rfl,rfl⟩
 refine Y.m .n ?_
 refine Y.el rfl (bL rfl aKv rfl rfl) ?_
 rintro _ _ ⟨g60,rfl,rfl⟩
 refine Y.es (aD rfl) rfl (esW rfl (.t .z) (.t .g1) .z pZ rfl rfl) ?_
 refine Y.nt (Y.seq ?_)
 refine Y.sel (.c .g2 (.c .g2 (.c .g3 (.c .g4 (.c .g4 (.c .z (.c .z (.c .z (.c .z (.c .z .n)))))))))) ?_
 refine Y.dr .g5 65 gG ?_
 refine Y.sc (qs 0 4) (by kernel_rfl) ?_
 refine Y.df rfl rfl .g5 .z aJm (Y.dl rfl rfl .g5 cF .z .z (Y.dk rfl rfl .g5 (bZ rfl (.t .z) .c) (Y.dm rfl rfl .g5 .z (Y.aa ?_))))
 refine Y.al .z (fun g61=> ?_) (fun g61=> ?_)
 refine Y.sc (qs 4 6) (by kernel_rfl) ?_
 refine Y.ah rfl rfl rfl .z rfl (by decide) rfl .g5 (aK rfl (.t .g4) (fun _=>aJk _ _)) ?_
 refine Y.ah rfl rfl rfl .g1 rfl (by decide) rfl .g5 (aL rfl cF (.t .z) (WS.g .z rfl)) ?_
 refine Y.ah rfl rfl rfl .g2 rfl (by decide) rfl .g5 (aV rfl (.t (.s16 .g10))) ?_
 refine Y.ah rfl rfl rfl .g3 rfl (by decide) rfl .g5 (bZ rfl (.t .g1) (.t .z)) ?_
 refine Y.dk rfl rfl .g5 (bO rfl (.t .g4) (.t .z)) (Y.dm rfl rfl .g5 .z (Y.aa ?_))
 refine Y.al .z (fun g62=> ?_) (fun g62=> ?_)
 refine Y.sc (qs 10 3++qs 16 4++ [(13,false),(14,true),(15,true)]++qs 20 3) (by kernel_rfl) ?_
 refine Y.ah rfl rfl rfl .z rfl (by decide) rfl .g5 (aK rfl (.t (.s16 .g13)) (fun _=>mK _ _)) ?_
 refine Y.ah rfl rfl rfl .g1 rfl (by decide) rfl .g5 (lY (cs:= [.slice ag ((dB aa m8 t9 ab).fs.inodes).length ah,.slice ai ((dB aa m8 t9 ab).fs.data).length aj]) rfl bI aW (.t .z) (WS.u .g3 (rE rfl))) ?_
 refine Y.ah rfl rfl rfl .g2 rfl (by decide) rfl .g5 (aV rfl (.t (.s16 (.s16 .g2)))) ?_
 refine Y.ah rfl rfl rfl .g3 rfl (by decide) rfl .g5 (aK rfl (.t (.s16 .g15)) (fun _=>oN _ _)) ?_
 refine Y.ah rfl rfl rfl .g4 rfl (by decide) rfl .g5 (aL rfl xV (.t .z) (WS.g .g2 rfl)) ?_
 refine Y.ah rfl rfl rfl .g5 rfl (by decide) rfl .g5 (bM rfl hZ (.t .z)) ?_
 refine Y.ah rfl rfl rfl .g6 rfl (by decide) rfl .g5 (bQ (c:=(((gT aa m8).names).length:Int)+1) rfl (.t .z) .c (wr (by omega) (by omega) (by omega))) ?_
 refine Y.call (nS rfl rfl rfl .g7) rfl (by decide) rfl (bS rfl Tryz.func34 rfl rfl (aX (.t .g5) (.t .g4))) .n (fun _ _ hs tr=>aLt (aM ((dB aa m8 t9 ab).fs) (tr.own .g3) (tr.own .g4)) _) ?_
 rintro _ _ ⟨cw,rfl,rfl⟩
 refine Y.m (.c .n) ?_
 refine Y.h (WS.a .z) ?_
 rintro⟨a7,a8,rfl,b6,b7,b8⟩
 refine Y.sk .g6 ?_
 refine Y.ah rfl rfl rfl .g8 rfl (by decide) rfl .g6 (kZ rfl (.t .z) (fun w=>aIr w (.int .i64 ((gT ((dB aa m8 t9 ab).fs) m8).code)) (.slice a7 ((gT ((dB aa m8 t9 ab).fs) m8).names).length a8))) ?_
 refine Y.ah rfl rfl rfl .g9 rfl (by decide) rfl .g6 (bM rfl hZ (.t .z)) ?_
 refine Y.ah rfl rfl rfl .g10 rfl (by decide) rfl .g6 (bZ rfl (.t .z) (.t .g3)) ?_
 refine Y.dk rfl rfl .g6 (bO rfl (.t .g11) (.t .z)) (Y.dm rfl rfl .g6 .z (Y.aa ?_))
 refine Y.al .z (fun g66=> ?_) (fun g66=> ?_)
 refine Y.sc (qs 23 5) (by kernel_rfl) ?_
 refine Y.ah rfl rfl rfl .z rfl (by decide) rfl .g6 (aK rfl (.t (.s16 .g13)) (fun _=>qO _ _)) ?_
 refine Y.ah rfl rfl rfl .g1 rfl (by decide) rfl .g6 (aL rfl cF (.t .z) (WS.g .g1 rfl)) ?_
 refine Y.ah rfl rfl rfl .g2 rfl (by decide) rfl .g6 (bZ rfl (.t .z) .c) ?_
 refine Y.dk rfl rfl .g6 (bO rfl (.t .g3) (.t .z)) (Y.dm rfl rfl .g6 .z (Y.aa ?_))
 refine Y.al .z (fun g67=> ?_) (fun g67=> ?_)
 refine Y.sc (qs 28 3++ [(31,false),(32,true),(33,true)]) (by kernel_rfl) ?_
 refine Y.ah rfl rfl rfl .z rfl (by decide) rfl .g6 (aK rfl (.t (.s16 (.s16 .g2))) (fun _=>mK _ _)) ?_
 refine Y.ah rfl rfl rfl .g1 rfl (by decide) rfl .g6 (lY (cs:= [.slice a3 ((jJ ((dB aa m8 t9 ab).fs) m8 t9).fs.inodes).length a4,.slice a5 ((jJ ((dB aa m8 t9 ab).fs) m8 t9).fs.data).length a6]) rfl bI aW (.t .z) (WS.u .g1 (rE rfl))) ?_
 refine Y.ah rfl rfl rfl .g2 rfl (by decide) rfl .g6 (qW rfl bI (.t (.s16 (.s16 (.s16 .g5)))) .g4 aW) ?_
 refine Y.call (nS rfl rfl rfl .g3) rfl (by decide) rfl (bS rfl Tryz.func21 rfl rfl (aX (.t .g1) (.t .z))) .n (fun _ _ hs tr=>aOh (aM ((jJ ((dB aa m8 t9 ab).fs) m8 t9).fs) (tr.own .g1) (tr.own .g2)) (aM aa (tr.ctx ac) (tr.ctx ad))) ?_
 rintro _ _ ⟨rfl,rfl⟩
 refine Y.m .n ?_
 refine Y.sk .g6 ?_
 refine Y.dk rfl rfl .g6 (bO rfl (.t .g4) (.t .z)) (Y.dm rfl rfl .g6 .z (Y.aa ?_))
 refine Y.al .z (fun g68=> ?_) (fun g68=> ?_)
 refine Y.sc ([(34,true),(35,true)]++qs 37 4++ [(36,false)]++qs 41 3) (by kernel_rfl) ?_
 refine Y.ah rfl rfl rfl .z rfl (by decide) rfl .g6 (qW rfl bI (.t (.s16 (.s16 (.s16 .g9)))) .g4 aW) ?_
 refine Y.ah rfl rfl rfl .g1 rfl (by decide) rfl .g6 (aV rfl (.t (.s16 (.s16 (.s16 .g9))))) ?_
 refine Y.ah rfl rfl rfl .g2 rfl (by decide) rfl .g6 (aK rfl (.t (.s16 (.s16 (.s16 .g6)))) (fun _=>oN _ _)) ?_
 refine Y.ah rfl rfl rfl .g3 rfl (by decide) rfl .g6 (aL rfl xV (.t .z) (WS.g .g2 rfl)) ?_
 refine Y.ah rfl rfl rfl .g4 rfl (by decide) rfl .g6 (bM rfl hZ (.t .z)) ?_
 refine Y.ah rfl rfl rfl .g5 rfl (by decide) rfl .g6 (bZ rfl (.t .z) .c) ?_
 refine Y.call (nS rfl rfl rfl .g6) rfl (by decide) rfl (bS rfl Tryz.func37 rfl rfl (aX (.t .g5) (.t .g4))) .n (fun _ _ hs tr=>aMh (aM aa (tr.ctx ac) (tr.ctx ad)) _) ?_
 rintro _ _ ⟨rfl,rfl⟩
 refine Y.m .n ?_
 refine Y.sk .g6 ?_
 refine Y.ah rfl rfl rfl .g7 rfl (by decide) rfl .g6 (aKl rfl u_4 (.t .z) (.t .g1)) ?_
 refine Y.dk rfl rfl .g6 (bO rfl (.t .g8) (.t .z)) (Y.dm rfl rfl .g6 .z (Y.aa ?_))
 refine Y.a2 .z (fun g69=> ?_) (fun g69=> ?_)
 refine Y.sc (qs 44 3++ [(47,false)]++qs 48 3) (by kernel_rfl) ?_
 refine Y.ah rfl rfl rfl .z rfl (by decide) rfl .g6 (aK rfl (.t (.s16 (.s16 (.s16 .g15)))) (fun _=>mK _ _)) ?_
 refine Y.ah rfl rfl rfl .g1 rfl (by decide) rfl .g6 (lY (cs:= [.slice ag ((dB aa m8 t9 ab).fs.inodes).length ah,.slice ai ((dB aa m8 t9 ab).fs.data).length aj]) rfl bI aW (.t .z) (WS.u .g3 (rE rfl))) ?_
 refine Y.ah rfl rfl rfl .g2 rfl (by decide) rfl .g6 (aV rfl (.t (.s16 (.s16 (.s16 (.s16 .g4)))))) ?_
 refine Y.call (nS rfl rfl rfl .g3) rfl (by decide) rfl (bS rfl Tryz.func37 rfl rfl (aX (.t .g1) (.t .z))) .n (fun _ _ hs tr=>aMh (aM ((dB aa m8 t9 ab).fs) (tr.own .g4) (tr.own .g5)) _) ?_
 rintro _ _ ⟨rfl,rfl⟩
 refine Y.m .n ?_
 refine Y.sk .g6 ?_
 refine Y.ah rfl rfl rfl .g4 rfl (by decide) rfl .g6 (fN rfl (.t .z)) ?_
 refine Y.dk rfl rfl .g6 (bO rfl (.t .g5) (.t .z)) (Y.dm rfl rfl .g6 .z (Y.aa ?_))
 refine Y.ap .z (fun g70=> ?_) (fun g70=> ?_)
 refine Y.sc (qs 51 4++qs 57 3++ [(55,false),(56,true),(60,false)]++qs 61 4++ [(65,false)]) (by kernel_rfl) ?_
 refine Y.ah rfl rfl rfl .z rfl (by decide) rfl .g6 (aK rfl (.t (.s16 (.s16 (.s16 (.s16 .g6))))) (fun _=>mK _ _)) ?_
 refine Y.ah rfl rfl rfl .g1 rfl (by decide) rfl .g6 (qF (k:=1) rfl (.t .z) (fun _=>aO _ _) rfl) ?_
 refine Y.ah rfl rfl rfl .g2 rfl (by decide) rfl .g6 (aL rfl bK (.t .z) (WS.g .g3 rfl)) ?_
 refine Y.ah rfl rfl rfl .g3 rfl (by decide) rfl .g6 (aV rfl (.t (.s16 (.s16 (.s16 (.s16 .g10)))))) ?_
 refine Y.ah rfl rfl rfl .g4 rfl (by decide) rfl .g6 (aK rfl (.t (.s16 (.s16 (.s16 (.s16 .g14))))) (fun _=>aO _ _)) ?_
 refine Y.ah rfl rfl rfl .g5 rfl (by decide) rfl .g6 (aL rfl bK (.t .z) (WS.g .g4 rfl)) ?_
 refine Y.ah rfl rfl rfl .g6 rfl (by decide) rfl .g6 (aV rfl (.t (.s16 (.s16 (.s16 (.s16 .g13)))))) ?_
 refine Y.call (nS rfl rfl rfl .g7) rfl (by decide) rfl (bS rfl Tryz.func38 rfl rfl (aX (.t .g4) (.t .g3))) .n (fun _ _ hs tr=>aLx (tr.own .g4) _) ?_
 rintro _ _ ⟨rfl,rfl⟩
 refine Y.m .n ?_
 refine Y.sk .g6 ?_
 refine Y.ah rfl rfl rfl .g8 rfl (by decide) rfl .g6 (kZ rfl (.t .z) (fun w=>aEi w (.int .i64 ((lD ((dB aa m8 t9 ab).fs.inodes) ab).code)) (.int .i64 ((lD ((dB aa m8 t9 ab).fs.inodes) ab).val)))) ?_
 refine Y.call (nS rfl rfl rfl .g9) rfl (by decide) rfl (bS rfl Tryz.func38 rfl rfl (aX (.t .g3) (.t .g2))) .n (fun _ _ hs tr=>aLx (tr.ctx ac) _) ?_
 rintro _ _ ⟨rfl,rfl⟩
 refine Y.m .n ?_
 refine Y.sk .g6 ?_
 refine Y.ah rfl rfl rfl .g10 rfl (by decide) rfl .g6 (kZ rfl (.t .z) (fun w=>aEi w (.int .i64 ((lD aa.inodes ab).code)) (.int .i64 ((lD aa.inodes ab).val)))) ?_
 refine Y.ah rfl rfl rfl .g11 rfl (by decide) rfl .g6 (bQ (c:=((lD aa.inodes ab).val)+1) rfl (.t .z) .c (wr (by omega) (by omega) (by omega))) ?_
 refine Y.ah rfl rfl rfl .g12 rfl (by decide) rfl .g6 (bZ rfl (.t .g3) (.t .z)) ?_
 refine Y.dk rfl rfl .g6 (bO rfl (.t .g13) (.t .z)) ?_
 refine Y.q (aE rfl rfl) rfl (by decide) rfl (aA rfl (.t .z)) ?_
 refine Y.sl rfl ?_
 refine Y.aa ?_
 refine Y.ag (by kernel_rfl) ?_
 refine Y.g (Y.ret ?_)
 refine Y.az (fun l w h=>ae _ _ (af _ _ (h))) ?_
 refine Y.i (aY rfl .z) .n ?_
 first |(focus(contradiction)) | exact⟨rfl,rfl⟩ |(focus(exfalso;omega)) |(focus(exfalso;simp_all;done)) |(focus(refine⟨congrArg Value.bool ?_,rfl⟩;simp_all;done)) |(focus(refine⟨congrArg Value.bool ?_,rfl⟩;simp_all;omega))
 exfalso;first | contradiction | omega |(rw [N3] at g70;exact absurd rfl g70) |(rw [N5] at g70;exact absurd rfl g70) |(rw [decide_eq_decide.2 N6,beq_self_eq_true] at g70;cases g70)
 exfalso;first | contradiction | omega |(rw [N3] at g69;exact absurd rfl g69) |(rw [N5] at g69;exact absurd rfl g69) |(rw [decide_eq_decide.2 N6,beq_self_eq_true] at g69;cases g69)
 exfalso;first | contradiction | omega |(rw [N3] at g68;exact absurd rfl g68) |(rw [N5] at g68;exact absurd rfl g68) |(rw [decide_eq_decide.2 N6,beq_self_eq_true] at g68;cases g68)
 exfalso;first | contradiction | omega |(rw [N3] at g67;exact absurd rfl g67) |(rw [N5] at g67;exact absurd rfl g67) |(rw [decide_eq_decide.2 N6,beq_self_eq_true] at g67;cases g67)
 exfalso;first | contradiction | omega |(rw [N3] at g66;exact absurd rfl g66) |(rw [N5] at g66;exact absurd rfl g66) |(rw [decide_eq_decide.2 N6,beq_self_eq_true] at g66;cases g66)
 exfalso;first | contradiction | omega |(rw [N3] at g62;exact absurd rfl g62) |(rw [N5] at g62;exact absurd rfl g62) |(rw [decide_eq_decide.2 N6,beq_self_eq_true] at g62;cases g62)
 exfalso;first | contradiction | omega |(rw [N3] at g61;exact absurd rfl g61) |(rw [N5] at g61;exact absurd rfl g61) |(rw [decide_eq_decide.2 N6,beq_self_eq_true] at g61;cases g61)

end Go.Proofs.YtmejbfmhaoilmaaGreat

/- What is proved: contracts of functions, one a function. No condition. -/
import Derived.Test.YtmejbfmhaoilmaaGreatBase1
import Derived.Test.YtmejbfmhaoilmaaGreatW88
import Derived.Test.YtmejbfmhaoilmaaGreatW89
import Derived.Test.YtmejbfmhaoilmaaGreatW57
import Derived.Test.YtmejbfmhaoilmaaGreatW42
import Derived.Test.YtmejbfmhaoilmaaGreatW6
import Derived.Test.YtmejbfmhaoilmaaGreatW30
import Derived.Test.YtmejbfmhaoilmaaGreatTypesA
import Derived.Test.YtmejbfmhaoilmaaGreatBase2
namespace Go.Proofs.YtmejbfmhaoilmaaGreat
open Go Go.RowKit
set_option linter.unusedVariables false
set_option linter.unusedSimpArgs false
set_option maxHeartbeats 1000000
set_option maxRecDepth 20000
theorem c_5 {w0:World}{S0:Bs}{cd:(List UInt8)}{v0:Value} (h0:bQ.ro w0 (FF w0 S0) cd [v0]):
    Calls Tryz.prog 5 #[v0] w0 (aJ w0 S0 (fun r l=>r= .bool true∧l= [])):=by
 obtain⟨A0,c0,rfl,fi,fj,fk,fl⟩:=aD h0
 refine Y.enter (N:=153) Tryz.func5 rfl rfl (by simp) [(0,.slice A0 cd.length c0)] (by simp) (l0:= []) trivial ?_
 refine Y.seq (Y.region (Y.ql rfl (aA rfl .c) (Y.nt (Y.seq (Y.seq (Y.region (Y.mv rfl .g1 ?_)))))))
 refine Y.cl rfl rfl Tryz.func8 rfl rfl (bH (.t .z)) .n (fun _ _ hs tr=>c_8 (tr.ctx h0)) ?_
 rintro _ _ ⟨rfl,rfl⟩
 refine Y.m .n ?_
 refine Y.nt ?_
 refine Y.u (.t .z) (fun b2=> ?_) (fun b2=> ?_)
 refine Y.seq (Y.region (Y.er .g2 (Y.ql rfl (aA rfl .c) (Y.nt (Y.ret (Y.j ?_))))))
 refine Y.i (aT rfl .z) .n ?_
 exact⟨rfl,rfl⟩
 refine Y.skip (Y.g (Y.seq (Y.region (Y.mv rfl .g3 ?_))))
 refine Y.cl rfl rfl Tryz.func23 rfl rfl (bH (.t .z)) .n (fun _ _ hs tr=>aM8 (tr.ctx h0) (by omega)) ?_
 rintro _ _ ⟨ac,v4,v6,m8,m9,aa,bg,bh,ab,eh,ei,c9,rfl,rfl⟩
 refine Y.m (.c (.c (.c (.c .n)))) ?_
 refine Y.h (WS.w .z) ?_
 rintro⟨av,aw,rfl,da,db,dc⟩
 refine Y.h (WS.w .g1) ?_
 rintro⟨ax,ay,rfl,dd,dg,dh⟩
 refine Y.a0 .z ?_
 intro w0 S0 bi ah ad
 replace h0:=bi h0
 refine Y.a0 .z ?_
 intro w0 S0 a6 ai ae
 replace ah:=a6 ah
 replace h0:=a6 h0
 refine Y.az .z ?_
 intro w0 S0 az an af
 replace ah:=az ah
 replace ai:=az ai
 replace h0:=az h0
 refine Y.az .z ?_
 intro w0 S0 au a7 ag
 replace ah:=au ah
 replace ai:=au ai
 replace an:=au an
 replace h0:=au h0
 refine Y.mv rfl .z (Y.ql rfl (bK (v:= .agg #[.slice av ac.inodes.length aw,.slice ax ac.data.length ay]) rfl (.t .z) rfl) (Y.ql rfl (bK (v:= .int .i64 m8) rfl (.t .g1) rfl) (Y.ql rfl (bK (v:= .int .i64 m9) rfl (.t .g2) rfl) (Y.ql rfl (bK (v:= .slice bg aa.length bh) rfl (.t .g3) rfl) (Y.ql rfl (bK (v:= .slice eh ab.length ei) rfl (.t .g4) rfl) ?_)))))
 refine Y.el rfl (bP rfl nK rfl rfl) ?_
 rintro _ _ ⟨g46,rfl,rfl⟩
 refine Y.es (aE rfl) rfl (esW rfl (.t .z) (.t .g5) .z aX rfl rfl) ?_
 refine Y.as rfl .g4 (Y.as rfl .g4 (Y.as rfl .g4 (Y.as rfl .g4 (Y.nt (Y.seq (Y.region (Y.ql rfl (qW rfl bR (.t .g4) .z aX) ?_)))))))
 refine Y.mv rfl .g4 (Y.mv rfl .g4 (Y.mv rfl .g4 (Y.mv rfl .g4 ?_)))
 refine Y.cl rfl rfl Tryz.func24 rfl rfl (aDw (.t .g4) (.t .g3) (.t .g2) (.t .g1) (.t .z)) .n (fun _ _ hs tr=>aMm (aK ac (tr.ctx ah) (tr.ctx ai)) _ _ (tr.ctx an) (tr.ctx a7)) ?_
 rintro _ _ ⟨fm,fn,rfl,rfl⟩
 refine Y.m (.c (.c .n)) ?_
 refine Y.h (WS.a .z) ?_
 rintro⟨aj,ak,rfl,di,dj,dp⟩
 refine Y.h (WS.a .g1) ?_
 rintro⟨al,am,rfl,ds,dt,du⟩
 refine Y.el rfl (bP rfl aCu rfl rfl) ?_
 rintro _ _ ⟨g53,rfl,rfl⟩
 refine Y.es (aE rfl) rfl (esW rfl (.t .z) (.t .g1) .z gV rfl rfl) ?_
 refine Y.nt (Y.seq (Y.seq (Y.region (Y.fa rfl .z rU (Y.ld rfl cB .z .z (Y.ql rfl (bY rfl (.t .z) .c) (Y.nil ?_)))))))
 refine Y.g ?_
 refine Y.ac (.t .z) (fun dv=> ?_) (fun dv=> ?_)
 refine Y.seq ?_
 refine Y.sel (.c .g1 (.c .g1 (.c .z (.c .z .n)))) ?_
 refine Y.dr .g2 10 gE ?_
 refine Y.sc (qs 0 5++ [(7,true),(8,true),(5,false),(6,true),(9,true),(10,false)]) (by kernel_rfl) ?_
 refine Y.dk rfl rfl .g2 (qW rfl bR (.t .g14) .g1 aX) (Y.dm rfl rfl .g2 .g14 (Y.dm rfl rfl .g2 .g14 (Y.dm rfl rfl .g2 .g14 (Y.dm rfl rfl .g2 .g14 (Y.df rfl rfl .g2 .g8 rU (Y.dl rfl rfl .g2 cB .z .z ?_))))))
 refine Y.call (aC rfl rfl) rfl (by decide) rfl (bG rfl Tryz.func25 rfl rfl (aDw (.t .g6) (.t .g5) (.t .g4) (.t .g3) (.t .g2))) .n (fun _ _ hs tr=>aK8 (aK ac (tr.ctx ah) (tr.ctx ai)) _ _ (tr.ctx an) (tr.ctx a7)) ?_
 rintro _ _ ⟨fo,fp,rfl,rfl⟩
 refine Y.m (.c (.c .n)) ?_
 refine Y.h (WS.a .z) ?_
 rintro⟨bz,b0,rfl,dw,dx,dy⟩
 refine Y.h (WS.a .g1) ?_
 rintro⟨b1,b3,rfl,dz,d0,d1⟩
 refine Y.sk .g4 ?_
 refine Y.dk rfl rfl .g4 (hP rfl (.t .z) (fun w=>aH4 w (.int .i64 ((aU ac m8 m9 aa ab).code)) (.slice bz ((aU ac m8 m9 aa ab).fs.inodes).length b0) (.slice b1 ((aU ac m8 m9 aa ab).fs.data).length b3))) (Y.dk rfl rfl .g4 (bU rfl (.t .z) (.t .g2)) (Y.er (.s16 (.s16 .g3)) ?_))
 refine Y.q (aC rfl rfl) rfl (by decide) rfl (aA rfl (.t .z)) ?_
 refine Y.sl rfl ?_
 refine Y.aa ?_
 refine Y.ai (by kernel_rfl) ?_
 refine Y.g (Y.ret (Y.j ?_))
 refine Y.av (fun l w h=>ad _ _ (ae _ _ (af _ _ (ag _ _ (h))))) ?_
 refine Y.i (aT rfl .z) .n ?_
 first |(focus(exfalso;have h:=W6 _ (by assumption) (by assumption);simp_all;done)) | exact⟨rfl,rfl⟩ |(focus(exfalso;omega)) |(focus(exfalso;simp_all;done)) |(focus(refine⟨congrArg Value.bool ?_,rfl⟩;simp_all;done)) |(focus(refine⟨congrArg Value.bool ?_,rfl⟩;simp_all;omega))
 obtain⟨W1,W2,W3,W4,W5,W6,W7,W8,W9,W0⟩:=aC6 dv
 refine Y.skip (Y.g (Y.seq (Y.region (Y.ql rfl (qW rfl bR (.t .g14) .g3 aX) (Y.mv rfl .g14 ?_)))))
 refine Y.cl rfl rfl Tryz.func13 rfl rfl (aR (.t .g1) (.t .z)) .n (fun _ _ hs tr=>aA6 (aK ac (tr.ctx ah) (tr.ctx ai)) _) ?_
 rintro _ _ ⟨fq,rfl,rfl⟩
 refine Y.m (.c .n) ?_
 refine Y.h (WS.a .z) ?_
 rintro⟨aq,ar,rfl,d2,d3,d4⟩
 refine Y.ql rfl (hP rfl (.t .z) (fun w=>nB w (.int .i64 ((bO ac m8).code)) (.slice aq ((bO ac m8).bytes).length ar))) ?_
 refine Y.as rfl .z (Y.nt (Y.seq (Y.region (Y.fa rfl .g8 mW (Y.ql rfl (lY (cs:= [.slice aj ((aU ac m8 m9 aa ab).fs.inodes).length ak,.slice al ((aU ac m8 m9 aa ab).fs.data).length am]) rfl bR aX (.t .z) (WS.u .g1 (qJ rfl))) (Y.mv rfl (.s16 .g4) ?_))))))
 refine Y.cl rfl rfl Tryz.func13 rfl rfl (aR (.t .g1) (.t .z)) .n (fun _ _ hs tr=>aA6 (aK ((aU ac m8 m9 aa ab).fs) (tr.own .g2) (tr.own .g3)) _) ?_
 rintro _ _ ⟨fr,rfl,rfl⟩
 refine Y.m (.c .n) ?_
 refine Y.h (WS.a .z) ?_
 rintro⟨ao,ap,rfl,d5,d6,d7⟩
 refine Y.ql rfl (hP rfl (.t .z) (fun w=>nB w (.int .i64 ((bO ((aU ac m8 m9 aa ab).fs) m8).code)) (.slice ao ((bO ((aU ac m8 m9 aa ab).fs) m8).bytes).length ap))) ?_
 refine Y.as rfl .z (Y.nt (Y.seq (Y.region (Y.mv rfl (.s16 .g7) (Y.mv rfl (.s16 .g7) (Y.ql rfl (bE rfl dP (.t .z)) ?_))))))
 refine Y.ql rfl (bA (c:=m9+(aa.length:Int)) rfl (.t .g2) (.t .z) (wr (by omega) (by omega) (by omega))) ?_
 refine Y.as rfl .z (Y.nt (Y.seq (Y.seq ?_)))
 refine Y.sel (.c .z (.c .z (.c .g1 (.c .g1 (.c .z (.c .z .n)))))) ?_
 refine Y.dr .g4 36 gE ?_
 refine Y.sc [(0,true),(1,true),(2,false),(3,true),(4,true)] (by kernel_rfl) ?_
 refine Y.df rfl rfl .g4 (.s16 .g3) mW (Y.dk rfl rfl .g4 (lY (cs:= [.slice aj ((aU ac m8 m9 aa ab).fs.inodes).length ak,.slice al ((aU ac m8 m9 aa ab).fs.data).length am]) rfl bR aX (.t .z) (WS.u .z (qJ rfl))) ?_)
 refine Y.call (aC rfl rfl) rfl (by decide) rfl (bG rfl Tryz.func17 rfl rfl (bH (.t .z))) .n (fun _ _ hs tr=>aM0 (aK ((aU ac m8 m9 aa ab).fs) (tr.own .g2) (tr.own .g3))) ?_
 rintro _ _ ⟨rfl,rfl⟩
 refine Y.m .n ?_
 refine Y.sk .g4 ?_
 refine Y.dk rfl rfl .g4 (bY rfl (.t .z) .c) (Y.dm rfl rfl .g4 .z (Y.aa ?_))
 refine Y.ao .z (fun g67=> ?_) (fun g67=> ?_)
 refine Y.sc (qs 5 31) (by kernel_rfl) ?_
 refine Y.ad rfl rfl rfl .z rfl rfl (by decide) rfl .g4 ?_
 refine Y.ad rfl rfl rfl .g1 rfl rfl (by decide) rfl .g4 ?_
 refine Y.ad rfl rfl rfl .g2 rfl rfl (by decide) rfl .g4 ?_
 refine Y.ad rfl rfl rfl .g3 rfl rfl (by decide) rfl .g4 ?_
 refine Y.ad rfl rfl rfl .z rfl rfl (by decide) rfl .g4 ?_
 refine Y.ad rfl rfl rfl .g1 rfl rfl (by decide) rfl .g4 ?_
 refine Y.ad rfl rfl rfl .g2 rfl rfl (by decide) rfl .g4 ?_
 refine Y.ad rfl rfl rfl .g3 rfl rfl (by decide) rfl .g4 ?_
 refine Y.ad rfl rfl rfl .g8 rfl rfl (by decide) rfl .g4 ?_
 refine Y.dk rfl rfl .g4 (aZ rfl (.t .g9) .c) (Y.dm rfl rfl .g4 .z ?_)
 refine Y.ad rfl rfl rfl .z rfl rfl (by decide) rfl .g4 ?_
 refine Y.ad rfl rfl rfl .g1 rfl rfl (by decide) rfl .g4 ?_
 refine Y.ad rfl rfl rfl .g2 rfl rfl (by decide) rfl .g4 ?_
 refine Y.ad rfl rfl rfl .g3 rfl rfl (by decide) rfl .g4 ?_
 refine Y.ad rfl rfl rfl .g4 rfl rfl (by decide) rfl .g4 ?_
 refine Y.dk rfl rfl .g4 (aZ rfl (.t .g5) .c) (Y.dm rfl rfl .g4 .z ?_)
 refine Y.ad rfl rfl rfl .z rfl rfl (by decide) rfl .g4 ?_
 refine Y.ad rfl rfl rfl .g1 rfl rfl (by decide) rfl .g4 ?_
 refine Y.ad rfl rfl rfl .g2 rfl rfl (by decide) rfl .g4 ?_
 refine Y.ad rfl rfl rfl .g3 rfl rfl (by decide) rfl .g4 ?_
 refine Y.ad rfl rfl rfl .g4 rfl rfl (by decide) rfl .g4 ?_
 refine Y.ad rfl rfl rfl .g5 rfl rfl (by decide) rfl .g4 ?_
 refine Y.ad rfl rfl rfl .g6 rfl rfl (by decide) rfl .g4 ?_
 refine Y.ad rfl rfl rfl .g7 rfl rfl (by decide) rfl .g4 ?_
 refine Y.ad rfl rfl rfl .g8 rfl rfl (by decide) rfl .g4 ?_
 refine Y.ad rfl rfl rfl .g9 rfl rfl (by decide) rfl .g4 ?_
 refine Y.ad rfl rfl rfl .g10 rfl rfl (by decide) rfl .g4 ?_
 refine Y.ad rfl rfl rfl .g11 rfl rfl (by decide) rfl .g4 ?_
 refine Y.dk rfl rfl .g4 (aZ rfl (.t .g12) .c) (Y.aa ?_)
 refine Y.ai (by kernel_rfl) ?_
 refine Y.g ?_
 refine Y.ap (.t .z) ?_
 refine Y.seq (Y.region (Y.er (.s16 (.s16 (.s16 (.s16 .g13)))) (Y.ql rfl (aA rfl .c) (Y.nt (Y.ret (Y.j ?_))))))
 refine Y.av (fun l w h=>ad _ _ (ae _ _ (af _ _ (ag _ _ (h))))) ?_
 refine Y.i (aT rfl .z) .n ?_
 first |(focus(exfalso;have h:=W6 _ (by assumption) (by assumption);simp_all;done)) | exact⟨rfl,rfl⟩ |(focus(exfalso;omega)) |(focus(exfalso;simp_all;done)) |(focus(refine⟨congrArg Value.bool ?_,rfl⟩;simp_all;done)) |(focus(refine⟨congrArg Value.bool ?_,rfl⟩;simp_all;omega))
 refine Y.sc (qs 5 4) (by kernel_rfl) ?_
 refine Y.ag rfl rfl rfl .z rfl (by decide) rfl .g4 (aN rfl (.t (.s16 .g16))) ?_
 refine Y.ag rfl rfl rfl .g1 rfl (by decide) rfl .g4 (bE rfl dP (.t .z)) ?_
 refine Y.ag rfl rfl rfl .g2 rfl (by decide) rfl .g4 (fT rfl (.t .z) .c) ?_
 refine Y.ag rfl rfl rfl .g3 rfl (by decide) rfl .g4 (aN rfl (.t .z)) ?_
 refine Y.aa ?_
 refine Y.am .z (fun g68=> ?_) (fun g68=> ?_)
 refine Y.sc (qs 9 7) (by kernel_rfl) ?_
 refine Y.ag rfl rfl rfl .z rfl (by decide) rfl .g4 (aN rfl (.t .g14)) ?_
 refine Y.ag rfl rfl rfl .g1 rfl (by decide) rfl .g4 (bE rfl dP (.t .z)) ?_
 refine Y.ag rfl rfl rfl .g2 rfl (by decide) rfl .g4 (aN rfl (.t .g11)) ?_
 refine Y.ag rfl rfl rfl .g3 rfl (by decide) rfl .g4 (cR rfl (.t .g1) (.t .z)) ?_
 refine Y.ag rfl rfl rfl .g8 rfl (by decide) rfl .g4 (aZ rfl (.t .g4) (.t .z)) ?_
 refine Y.dk rfl rfl .g4 (bJ rfl (.t .g9) (.t .z)) (Y.dm rfl rfl .g4 .z (Y.aa ?_))
 refine Y.am .z (fun g69=> ?_) (fun g69=> ?_)
 refine Y.sc (qs 16 20) (by kernel_rfl) ?_
 refine Y.ad rfl rfl rfl .z rfl rfl (by decide) rfl .g4 ?_
 refine Y.ad rfl rfl rfl .g1 rfl rfl (by decide) rfl .g4 ?_
 refine Y.ad rfl rfl rfl .g2 rfl rfl (by decide) rfl .g4 ?_
 refine Y.ad rfl rfl rfl .g3 rfl rfl (by decide) rfl .g4 ?_
 refine Y.ad rfl rfl rfl .g4 rfl rfl (by decide) rfl .g4 ?_
 refine Y.dk rfl rfl .g4 (aZ rfl (.t .g5) .c) (Y.dm rfl rfl .g4 .z ?_)
 refine Y.ad rfl rfl rfl .z rfl rfl (by decide) rfl .g4 ?_
 refine Y.ad rfl rfl rfl .g1 rfl rfl (by decide) rfl .g4 ?_
 refine Y.ad rfl rfl rfl .g2 rfl rfl (by decide) rfl .g4 ?_
 refine Y.ad rfl rfl rfl .g3 rfl rfl (by decide) rfl .g4 ?_
 refine Y.ad rfl rfl rfl .g4 rfl rfl (by decide) rfl .g4 ?_
 refine Y.ad rfl rfl rfl .g5 rfl rfl (by decide) rfl .g4 ?_
 refine Y.ad rfl rfl rfl .g6 rfl rfl (by decide) rfl .g4 ?_
 refine Y.ad rfl rfl rfl .g7 rfl rfl (by decide) rfl .g4 ?_
 refine Y.ad rfl rfl rfl .g8 rfl rfl (by decide) rfl .g4 ?_
 refine Y.ad rfl rfl rfl .g9 rfl rfl (by decide) rfl .g4 ?_
 refine Y.ad rfl rfl rfl .g10 rfl rfl (by decide) rfl .g4 ?_
 refine Y.ad rfl rfl rfl .g11 rfl rfl (by decide) rfl .g4 ?_
 refine Y.dk rfl rfl .g4 (aZ rfl (.t .g12) .c) (Y.aa ?_)
 refine Y.ai (by kernel_rfl) ?_
 refine Y.g ?_
 refine Y.ap (.t .z) ?_
 refine Y.seq (Y.region (Y.er (.s16 (.s16 (.s16 (.s16 .g13)))) (Y.ql rfl (aA rfl .c) (Y.nt (Y.ret (Y.j ?_))))))
 refine Y.av (fun l w h=>ad _ _ (ae _ _ (af _ _ (ag _ _ (h))))) ?_
 refine Y.i (aT rfl .z) .n ?_
 first |(focus(exfalso;have h:=W6 _ (by assumption) (by assumption);simp_all;done)) | exact⟨rfl,rfl⟩ |(focus(exfalso;omega)) |(focus(exfalso;simp_all;done)) |(focus(refine⟨congrArg Value.bool ?_,rfl⟩;simp_all;done)) |(focus(refine⟨congrArg Value.bool ?_,rfl⟩;simp_all;omega))
 refine Y.sc (qs 16 7) (by kernel_rfl) ?_
 refine Y.ag rfl rfl rfl .z rfl (by decide) rfl .g4 (aN rfl (.t (.s16 .g5))) ?_
 refine Y.ag rfl rfl rfl .g1 rfl (by decide) rfl .g4 (bE rfl dP (.t .z)) ?_
 refine Y.ag rfl rfl rfl .g2 rfl (by decide) rfl .g4 (aN rfl (.t (.s16 .g13))) ?_
 refine Y.ag rfl rfl rfl .g3 rfl (by decide) rfl .g4 (bE rfl dP (.t .z)) ?_
 refine Y.ag rfl rfl rfl .g4 rfl (by decide) rfl .g4 (cR rfl (.t .g2) (.t .z)) ?_
 refine Y.dk rfl rfl .g4 (bJ rfl (.t .g5) (.t .z)) (Y.dm rfl rfl .g4 .z (Y.aa ?_))
 refine Y.am .z (fun g70=> ?_) (fun g70=> ?_)
 refine Y.sc (qs 23 13) (by kernel_rfl) ?_
 refine Y.ad rfl rfl rfl .z rfl rfl (by decide) rfl .g4 ?_
 refine Y.ad rfl rfl rfl .g1 rfl rfl (by decide) rfl .g4 ?_
 refine Y.ad rfl rfl rfl .g2 rfl rfl (by decide) rfl .g4 ?_
 refine Y.ad rfl rfl rfl .g3 rfl rfl (by decide) rfl .g4 ?_
 refine Y.ad rfl rfl rfl .g4 rfl rfl (by decide) rfl .g4 ?_
 refine Y.ad rfl rfl rfl .g5 rfl rfl (by decide) rfl .g4 ?_
 refine Y.ad rfl rfl rfl .g6 rfl rfl (by decide) rfl .g4 ?_
 refine Y.ad rfl rfl rfl .g7 rfl rfl (by decide) rfl .g4 ?_
 refine Y.ad rfl rfl rfl .g8 rfl rfl (by decide) rfl .g4 ?_
 refine Y.ad rfl rfl rfl .g9 rfl rfl (by decide) rfl .g4 ?_
 refine Y.ad rfl rfl rfl .g10 rfl rfl (by decide) rfl .g4 ?_
 refine Y.ad rfl rfl rfl .g11 rfl rfl (by decide) rfl .g4 ?_
 refine Y.dk rfl rfl .g4 (aZ rfl (.t .g12) .c) (Y.aa ?_)
 refine Y.ai (by kernel_rfl) ?_
 refine Y.g ?_
 refine Y.ap (.t .z) ?_
 refine Y.seq (Y.region (Y.er (.s16 (.s16 (.s16 (.s16 .g13)))) (Y.ql rfl (aA rfl .c) (Y.nt (Y.ret (Y.j ?_))))))
 refine Y.av (fun l w h=>ad _ _ (ae _ _ (af _ _ (ag _ _ (h))))) ?_
 refine Y.i (aT rfl .z) .n ?_
 first |(focus(exfalso;have h:=W6 _ (by assumption) (by assumption);simp_all;done)) | exact⟨rfl,rfl⟩ |(focus(exfalso;omega)) |(focus(exfalso;simp_all;done)) |(focus(refine⟨congrArg Value.bool ?_,rfl⟩;simp_all;done)) |(focus(refine⟨congrArg Value.bool ?_,rfl⟩;simp_all;omega))
 refine Y.sc (qs 23 6++ [(32,true),(33,true),(29,false),(30,true),(31,false),(34,true),(35,true)]) (by kernel_rfl) ?_
 refine Y.ag rfl rfl rfl .z rfl (by decide) rfl .g4 (aS rfl (.t (.s16 (.s16 .g10))) (fun _=>mW _ _)) ?_
 refine Y.ag rfl rfl rfl .g1 rfl (by decide) rfl .g4 (lY (cs:= [.slice aj ((aU ac m8 m9 aa ab).fs.inodes).length ak,.slice al ((aU ac m8 m9 aa ab).fs.data).length am]) rfl bR aX (.t .z) (WS.u .z (qJ rfl))) ?_
 refine Y.ag rfl rfl rfl .g2 rfl (by decide) rfl .g4 (aN rfl (.t (.s16 (.s16 (.s16 .g6))))) ?_
 refine Y.ag rfl rfl rfl .g3 rfl (by decide) rfl .g4 (aN rfl (.t (.s16 (.s16 (.s16 .g6))))) ?_
 refine Y.ag rfl rfl rfl .g4 rfl (by decide) rfl .g4 (aN rfl (.t (.s16 (.s16 (.s16 .g6))))) ?_
 refine Y.ag rfl rfl rfl .g5 rfl (by decide) rfl .g4 (bE rfl dP (.t .z)) ?_
 refine Y.ag rfl rfl rfl .g6 rfl (by decide) rfl .g4 (aN rfl (.t (.s16 (.s16 (.s16 .g8))))) ?_
 refine Y.ag rfl rfl rfl .g7 rfl (by decide) rfl .g4 (hJ (xs:=aa) rfl dP u_5 u_9 (.t .z) (WS.aa an)) ?_
 refine Y.call (eV rfl rfl rfl .g8) rfl (by decide) rfl (bG rfl Tryz.func10 rfl rfl (pK (.t .g6) (.t .g5) (.t .g4) (.t .g2))) .n (fun _ _ hs tr=>aLg (aK ((aU ac m8 m9 aa ab).fs) (tr.own .g2) (tr.own .g3)) _ _ _) ?_
 rintro _ _ ⟨ft,rfl,rfl⟩
 refine Y.m (.c .n) ?_
 refine Y.h (WS.a .z) ?_
 rintro⟨ba,bb,rfl,d8,d9,ea⟩
 refine Y.sk .g5 ?_
 refine Y.ag rfl rfl rfl .g9 rfl (by decide) rfl .g5 (hP rfl (.t .z) (fun w=>nB w (.int .i64 ((iR ((aU ac m8 m9 aa ab).fs) m8 m9 (aa.length:Int)).code)) (.slice ba ((iR ((aU ac m8 m9 aa ab).fs) m8 m9 (aa.length:Int)).bytes).length bb))) ?_
 refine Y.q (eV rfl rfl rfl .g10) rfl (by decide) rfl (hJ (xs:=(iR ((aU ac m8 m9 aa ab).fs) m8 m9 (aa.length:Int)).bytes) rfl dP u_5 u_9 (.t .z) (WS.r .z)) ?_
 refine Y.sk .g5 ?_
 refine Y.ag rfl rfl rfl .g11 rfl (by decide) rfl .g5 (qQ rfl (.t .z) (.t .g3)) ?_
 refine Y.dk rfl rfl .g5 (bJ rfl (.t .g12) (.t .z)) (Y.aa ?_)
 refine Y.ai (by kernel_rfl) ?_
 refine Y.g ?_
 refine Y.ac (.t .z) (fun ej=> ?_) (fun ej=> ?_)
 refine Y.seq (Y.region (Y.er (.s16 (.s16 (.s16 (.s16 .g13)))) (Y.ql rfl (aA rfl .c) (Y.nt (Y.ret (Y.j ?_))))))
 refine Y.av (fun l w h=>ad _ _ (ae _ _ (af _ _ (ag _ _ (h))))) ?_
 refine Y.i (aT rfl .z) .n ?_
 first |(focus(exfalso;have h:=W6 _ (by assumption) (by assumption);simp_all;done)) | exact⟨rfl,rfl⟩ |(focus(exfalso;omega)) |(focus(exfalso;simp_all;done)) |(focus(refine⟨congrArg Value.bool ?_,rfl⟩;simp_all;done)) |(focus(refine⟨congrArg Value.bool ?_,rfl⟩;simp_all;omega))
 refine Y.skip (Y.g (Y.seq (Y.seq (Y.region (Y.ql rfl (aA rfl .c) (Y.nt (Y.block ?_)))))))
 refine Y.ak (γ:=Nat) (fun i=> [(12,.int .i64 (i:Int)),(11,.int .i64 (m9+(aa.length:Int))),(10,.slice ao ((bO ((aU ac m8 m9 aa ab).fs) m8).bytes).length ap),(9,.slice aq ((bO ac m8).bytes).length ar),(8,.pointer (some ⟨g53,0,none⟩)),(6,.slice bg aa.length bh),(5,.int .i64 m9),(4,.int .i64 m8),(3,.pointer (some ⟨g46,0,none⟩))]) (fun i=> [aG bQ ((iR ((aU ac m8 m9 aa ab).fs) m8 m9 (aa.length:Int)).bytes) [.slice ba ((iR ((aU ac m8 m9 aa ab).fs) m8 m9 (aa.length:Int)).bytes).length bb],aG bQ ((bO ((aU ac m8 m9 aa ab).fs) m8).bytes) [.slice ao ((bO ((aU ac m8 m9 aa ab).fs) m8).bytes).length ap],aG bQ ((bO ac m8).bytes) [.slice aq ((bO ac m8).bytes).length ar],aG aW ((aU ac m8 m9 aa ab).fs.inodes) [.slice aj ((aU ac m8 m9 aa ab).fs.inodes).length ak],aG dA ((aU ac m8 m9 aa ab).fs.data) [.slice al ((aU ac m8 m9 aa ab).fs.data).length am],bW g53 48 3 1 [.int .i64 ((aU ac m8 m9 aa ab).code),.slice aj ((aU ac m8 m9 aa ab).fs.inodes).length ak,.slice al ((aU ac m8 m9 aa ab).fs.data).length am],bW g46 27 2 1 [.slice av ac.inodes.length aw,.slice ax ac.data.length ay]]) (fun i=>i≤(bO ((aU ac m8 m9 aa ab).fs) m8).bytes.length) (fun i=>(bO ((aU ac m8 m9 aa ab).fs) m8).bytes.length - i) 0 (Nat.zero_le _) (.c .z (.c (.s16 (.s16 .g5)) (.c (.s16 (.s16 .g10)) (.c (.s16 (.s16 .g16)) (.c (.s16 (.s16 (.s16 .g8))) (.c (.s16 (.s16 (.s16 .g16))) (.c (.s16 (.s16 (.s16 (.s16 .g1)))) (.c (.s16 (.s16 (.s16 (.s16 .g2)))) (.c (.s16 (.s16 (.s16 (.s16 .g3)))) .n))))))))) (fun _ h=>h.sel (.c .z (.c .z (.c .z (.c .z (.c .z (.c .z (.c .z .n)))))))) ?_
 rintro i hi
 refine Y.seq (Y.seq (Y.region (Y.mv rfl .z (Y.mv rfl .g3 (Y.ql rfl (bE rfl dP (.t .z)) (Y.ql rfl (cR rfl (.t .g2) (.t .z)) (Y.nt ?_)))))))
 refine Y.u (.t .z) (fun ek=> ?_) (fun ek=> ?_)
 refine Y.skip (Y.g (Y.seq (Y.block (Y.seq (Y.seq (Y.region (Y.mv rfl .g4 (Y.mv rfl .g11 ?_))))))))
 refine Y.ql rfl (mB rfl (.t .g1) (.t .z)) (Y.mv rfl .z ?_)
 refine Y.am .z (fun g76=> ?_) (fun g76=> ?_)
 refine Y.qg rfl rfl .z rfl rfl rfl (aN rfl (.t .g8)) ?_
 refine Y.qg rfl rfl .g1 rfl rfl rfl (aN rfl (.t .g10)) ?_
 refine Y.qg rfl rfl .g2 rfl rfl rfl (cR rfl (.t .g1) (.t .z)) ?_
 refine Y.ql rfl (aZ rfl (.t .g3) (.t .z)) (Y.nt ?_)
 refine Y.u (.t .z) (fun em=> ?_) (fun em=> ?_)
 refine Y.exit (Y.y (Y.aj (Y.g (Y.region (Y.mv rfl .g12 ?_)))))
 refine Y.ql rfl (bA (c:=((i+1:Nat):Int)) rfl (.t .z) .c (wr (by omega) (by omega) (by omega))) ?_
 refine Y.er .g14 (Y.as rfl .z (Y.nil ?_))
 refine Y.ae (i+1) (by omega) (by first | omega |(dsimp only;omega)) (.c .z (.c .g15 (.c .g16 (.c (.s16 .g1) (.c (.s16 .g2) (.c (.s16 .g3) (.c (.s16 .g4) (.c (.s16 .g5) (.c (.s16 .g6) .n))))))))) (fun _ h=>h.sel (.c .z (.c .z (.c .z (.c .z (.c .z (.c .z (.c .z .n))))))))
 refine Y.skip (Y.g (Y.seq (Y.region (Y.ql rfl (aA rfl .c) (Y.nt (Y.seq (Y.seq ?_)))))))
 refine Y.region (Y.mv rfl .g13 (Y.mv rfl (.s16 .g1) (Y.ql rfl (bE rfl dP (.t .z)) (Y.ql rfl (cR rfl (.t .g2) (.t .z)) (Y.nt ?_)))))
 refine Y.u (.t .z) (fun en=> ?_) (fun en=> ?_)
 refine Y.region (Y.mv rfl (.s16 .g4) (Y.mv rfl (.s16 .g2) ?_))
 refine Y.h (WS.g .g2 (by omega)) ?_
 rintro⟨eo,rfl⟩
 refine Y.ql rfl (aB (j:=i) rfl dP nJ (.t .g1) (.t .z) rfl (by omega)) ?_
 obtain⟨fu,bc⟩:=aI (xs:=(bO ac m8).bytes) (j:=i) (by omega)
 refine Y.ql rfl (aP rfl sL (.t .z) (WS.i .g2 bc)) (Y.er .g8 (Y.as rfl .z (Y.nt (Y.seq (Y.region (Y.mv rfl (.s16 .g7) (Y.mv rfl (.s16 .g6) ?_)))))))
 refine Y.h (WS.g .g1 (by omega)) ?_
 rintro⟨ep,rfl⟩
 refine Y.ql rfl (aB (j:=i) rfl dP nJ (.t .g1) (.t .z) rfl (by omega)) ?_
 obtain⟨fv,bd⟩:=aI (xs:=(bO ((aU ac m8 m9 aa ab).fs) m8).bytes) (j:=i) (by omega)
 refine Y.ql rfl (aP rfl sL (.t .z) (WS.i .g1 bd)) (Y.mv rfl .g4 (Y.ql rfl (bY rfl (.t .g1) (.t .z)) (Y.nt ?_)))
 refine Y.ac (.t .z) (fun et=> ?_) (fun et=> ?_)
 refine Y.seq (Y.region (Y.ql rfl (aA rfl .c) (Y.nt (Y.ret (Y.v (Y.j (Y.j ?_)))))))
 refine Y.v (Y.j ?_)
 refine Y.av (fun l w h=>ad _ _ (ae _ _ (af _ _ (ag _ _ (h))))) ?_
 refine Y.i (aT rfl .z) .n ?_
 first |(focus(exfalso;rcases W5 _ _ bd (by omega) with h | h;(focus(rw [bc] at h;cases h;contradiction));(focus(have:=(List.getElem?_eq_some_iff.1 bc).1;omega)))) |(focus(exfalso;rcases W5 _ _ bd (by omega) with h | h;(focus(have:=(List.getElem?_eq_some_iff.1 h).1;omega));(focus(have:=h.2;subst this;contradiction)))) |(focus(exfalso;have h:=W6 _ (by assumption) (by assumption);simp_all;done)) | exact⟨rfl,rfl⟩ |(focus(exfalso;omega)) |(focus(exfalso;simp_all;done)) |(focus(refine⟨congrArg Value.bool ?_,rfl⟩;simp_all;done)) |(focus(refine⟨congrArg Value.bool ?_,rfl⟩;simp_all;omega))
 refine Y.skip (Y.w (Y.g (Y.region (Y.mv rfl (.s16 .g11) ?_))))
 refine Y.ql rfl (bA (c:=((i+1:Nat):Int)) rfl (.t .z) .c (wr (by omega) (by omega) (by omega))) ?_
 refine Y.er (.s16 .g13) (Y.as rfl .z (Y.nil ?_))
 refine Y.ae (i+1) (by omega) (by first | omega |(dsimp only;omega)) (.c .z (.c (.s16 .g14) (.c (.s16 .g15) (.c (.s16 .g16) (.c (.s16 (.s16 .g1)) (.c (.s16 (.s16 .g2)) (.c (.s16 (.s16 .g3)) (.c (.s16 (.s16 .g4)) (.c (.s16 (.s16 .g5)) .n))))))))) (fun _ h=>h.sel (.c .z (.c .z (.c .z (.c .z (.c .z (.c .z (.c .z .n))))))))
 refine Y.skip (Y.g (Y.seq (Y.region (Y.mv rfl (.s16 .g3) (Y.mv rfl (.s16 .g2) ?_)))))
 refine Y.h (WS.g .g1 (by omega)) ?_
 rintro⟨eu,rfl⟩
 refine Y.ql rfl (aB (j:=i) rfl dP nJ (.t .g1) (.t .z) rfl (by omega)) ?_
 obtain⟨fw,bj⟩:=aI (xs:=(bO ((aU ac m8 m9 aa ab).fs) m8).bytes) (j:=i) (by omega)
 refine Y.ql rfl (aP rfl sL (.t .z) (WS.i .g1 bj)) (Y.mv rfl .g8 (Y.ql rfl (bY rfl (.t .g1) (.t .z)) (Y.nt ?_)))
 refine Y.ac (.t .z) (fun ev=> ?_) (fun ev=> ?_)
 refine Y.seq (Y.region (Y.ql rfl (aA rfl .c) (Y.nt (Y.ret (Y.v (Y.j (Y.j ?_)))))))
 refine Y.v (Y.j ?_)
 refine Y.av (fun l w h=>ad _ _ (ae _ _ (af _ _ (ag _ _ (h))))) ?_
 refine Y.i (aT rfl .z) .n ?_
 first |(focus(exfalso;rcases W5 _ _ bj (by omega) with h | h;(focus(have:=(List.getElem?_eq_some_iff.1 h).1;omega));(focus(have:=h.2;subst this;contradiction)))) |(focus(exfalso;have h:=W6 _ (by assumption) (by assumption);simp_all;done)) | exact⟨rfl,rfl⟩ |(focus(exfalso;omega)) |(focus(exfalso;simp_all;done)) |(focus(refine⟨congrArg Value.bool ?_,rfl⟩;simp_all;done)) |(focus(refine⟨congrArg Value.bool ?_,rfl⟩;simp_all;omega))
 refine Y.skip (Y.w (Y.g (Y.region (Y.mv rfl (.s16 .g7) ?_))))
 refine Y.ql rfl (bA (c:=((i+1:Nat):Int)) rfl (.t .z) .c (wr (by omega) (by omega) (by omega))) ?_
 refine Y.er (.s16 .g9) (Y.as rfl .z (Y.nil ?_))
 refine Y.ae (i+1) (by omega) (by first | omega |(dsimp only;omega)) (.c .z (.c (.s16 .g10) (.c (.s16 .g11) (.c (.s16 .g12) (.c (.s16 .g13) (.c (.s16 .g14) (.c (.s16 .g15) (.c (.s16 .g16) (.c (.s16 (.s16 .g1)) .n))))))))) (fun _ h=>h.sel (.c .z (.c .z (.c .z (.c .z (.c .z (.c .z (.c .z .n))))))))
 refine Y.r rfl rfl .z rfl rfl (by decide) rfl ?_
 refine Y.r rfl rfl .g1 rfl rfl (by decide) rfl ?_
 refine Y.r rfl rfl .g2 rfl rfl (by decide) rfl ?_
 refine Y.ql rfl (bJ rfl (.t .g3) .c) (Y.nt ?_)
 refine Y.an (.t .z) ?_
 refine Y.skip (Y.g (Y.seq (Y.region (Y.ql rfl (aA rfl .c) (Y.nt (Y.seq (Y.seq ?_)))))))
 refine Y.region (Y.mv rfl .g13 (Y.mv rfl (.s16 .g1) (Y.ql rfl (bE rfl dP (.t .z)) (Y.ql rfl (cR rfl (.t .g2) (.t .z)) (Y.nt ?_)))))
 refine Y.u (.t .z) (fun ew=> ?_) (fun ew=> ?_)
 refine Y.region (Y.mv rfl (.s16 .g4) (Y.mv rfl (.s16 .g2) ?_))
 refine Y.h (WS.g .g2 (by omega)) ?_
 rintro⟨ey,rfl⟩
 refine Y.ql rfl (aB (j:=i) rfl dP nJ (.t .g1) (.t .z) rfl (by omega)) ?_
 obtain⟨fx,be⟩:=aI (xs:=(bO ac m8).bytes) (j:=i) (by omega)
 refine Y.ql rfl (aP rfl sL (.t .z) (WS.i .g2 be)) (Y.er .g8 (Y.as rfl .z (Y.nt (Y.seq (Y.region (Y.mv rfl (.s16 .g7) (Y.mv rfl (.s16 .g6) ?_)))))))
 refine Y.h (WS.g .g1 (by omega)) ?_
 rintro⟨ez,rfl⟩
 refine Y.ql rfl (aB (j:=i) rfl dP nJ (.t .g1) (.t .z) rfl (by omega)) ?_
 obtain⟨fy,bf⟩:=aI (xs:=(bO ((aU ac m8 m9 aa ab).fs) m8).bytes) (j:=i) (by omega)
 refine Y.ql rfl (aP rfl sL (.t .z) (WS.i .g1 bf)) (Y.mv rfl .g4 (Y.ql rfl (bY rfl (.t .g1) (.t .z)) (Y.nt ?_)))
 refine Y.ac (.t .z) (fun e0=> ?_) (fun e0=> ?_)
 refine Y.seq (Y.region (Y.ql rfl (aA rfl .c) (Y.nt (Y.ret (Y.v (Y.j (Y.j ?_)))))))
 refine Y.v (Y.j ?_)
 refine Y.av (fun l w h=>ad _ _ (ae _ _ (af _ _ (ag _ _ (h))))) ?_
 refine Y.i (aT rfl .z) .n ?_
 first |(focus(exfalso;rcases W5 _ _ bf (by omega) with h | h;(focus(rw [be] at h;cases h;contradiction));(focus(have:=(List.getElem?_eq_some_iff.1 be).1;omega)))) |(focus(exfalso;rcases W5 _ _ bf (by omega) with h | h;(focus(have:=(List.getElem?_eq_some_iff.1 h).1;omega));(focus(have:=h.2;subst this;contradiction)))) |(focus(exfalso;have h:=W6 _ (by assumption) (by assumption);simp_all;done)) | exact⟨rfl,rfl⟩ |(focus(exfalso;omega)) |(focus(exfalso;simp_all;done)) |(focus(refine⟨congrArg Value.bool ?_,rfl⟩;simp_all;done)) |(focus(refine⟨congrArg Value.bool ?_,rfl⟩;simp_all;omega))
 refine Y.skip (Y.w (Y.g (Y.region (Y.mv rfl (.s16 .g11) ?_))))
 refine Y.ql rfl (bA (c:=((i+1:Nat):Int)) rfl (.t .z) .c (wr (by omega) (by omega) (by omega))) ?_
 refine Y.er (.s16 .g13) (Y.as rfl .z (Y.nil ?_))
 refine Y.ae (i+1) (by omega) (by first | omega |(dsimp only;omega)) (.c .z (.c (.s16 .g14) (.c (.s16 .g15) (.c (.s16 .g16) (.c (.s16 (.s16 .g1)) (.c (.s16 (.s16 .g2)) (.c (.s16 (.s16 .g3)) (.c (.s16 (.s16 .g4)) (.c (.s16 (.s16 .g5)) .n))))))))) (fun _ h=>h.sel (.c .z (.c .z (.c .z (.c .z (.c .z (.c .z (.c .z .n))))))))
 refine Y.skip (Y.g (Y.seq (Y.region (Y.mv rfl (.s16 .g3) (Y.mv rfl (.s16 .g2) ?_)))))
 refine Y.h (WS.g .g1 (by omega)) ?_
 rintro⟨e1,rfl⟩
 refine Y.ql rfl (aB (j:=i) rfl dP nJ (.t .g1) (.t .z) rfl (by omega)) ?_
 obtain⟨fz,bk⟩:=aI (xs:=(bO ((aU ac m8 m9 aa ab).fs) m8).bytes) (j:=i) (by omega)
 refine Y.ql rfl (aP rfl sL (.t .z) (WS.i .g1 bk)) (Y.mv rfl .g8 (Y.ql rfl (bY rfl (.t .g1) (.t .z)) (Y.nt ?_)))
 refine Y.ac (.t .z) (fun e2=> ?_) (fun e2=> ?_)
 refine Y.seq (Y.region (Y.ql rfl (aA rfl .c) (Y.nt (Y.ret (Y.v (Y.j (Y.j ?_)))))))
 refine Y.v (Y.j ?_)
 refine Y.av (fun l w h=>ad _ _ (ae _ _ (af _ _ (ag _ _ (h))))) ?_
 refine Y.i (aT rfl .z) .n ?_
 first |(focus(exfalso;rcases W5 _ _ bk (by omega) with h | h;(focus(have:=(List.getElem?_eq_some_iff.1 h).1;omega));(focus(have:=h.2;subst this;contradiction)))) |(focus(exfalso;have h:=W6 _ (by assumption) (by assumption);simp_all;done)) | exact⟨rfl,rfl⟩ |(focus(exfalso;omega)) |(focus(exfalso;simp_all;done)) |(focus(refine⟨congrArg Value.bool ?_,rfl⟩;simp_all;done)) |(focus(refine⟨congrArg Value.bool ?_,rfl⟩;simp_all;omega))
 refine Y.skip (Y.w (Y.g (Y.region (Y.mv rfl (.s16 .g7) ?_))))
 refine Y.ql rfl (bA (c:=((i+1:Nat):Int)) rfl (.t .z) .c (wr (by omega) (by omega) (by omega))) ?_
 refine Y.er (.s16 .g9) (Y.as rfl .z (Y.nil ?_))
 refine Y.ae (i+1) (by omega) (by first | omega |(dsimp only;omega)) (.c .z (.c (.s16 .g10) (.c (.s16 .g11) (.c (.s16 .g12) (.c (.s16 .g13) (.c (.s16 .g14) (.c (.s16 .g15) (.c (.s16 .g16) (.c (.s16 (.s16 .g1)) .n))))))))) (fun _ h=>h.sel (.c .z (.c .z (.c .z (.c .z (.c .z (.c .z (.c .z .n))))))))
 refine Y.exit (Y.y (Y.y (Y.aj (Y.g (Y.seq (Y.seq (Y.region (Y.ql rfl (aA rfl .c) ?_))))))))
 refine Y.nt (Y.block ?_)
 refine Y.ak (γ:=Nat) (fun k=> [(14,.int .i64 (k:Int)),(10,.slice ao ((bO ((aU ac m8 m9 aa ab).fs) m8).bytes).length ap),(8,.pointer (some ⟨g53,0,none⟩)),(6,.slice bg aa.length bh),(4,.int .i64 m8),(3,.pointer (some ⟨g46,0,none⟩))]) (fun k=> [aG bQ ((iR ((aU ac m8 m9 aa ab).fs) m8 m9 (aa.length:Int)).bytes) [.slice ba ((iR ((aU ac m8 m9 aa ab).fs) m8 m9 (aa.length:Int)).bytes).length bb],aG bQ ((bO ((aU ac m8 m9 aa ab).fs) m8).bytes) [.slice ao ((bO ((aU ac m8 m9 aa ab).fs) m8).bytes).length ap],aG bQ ((bO ac m8).bytes) [.slice aq ((bO ac m8).bytes).length ar],aG aW ((aU ac m8 m9 aa ab).fs.inodes) [.slice aj ((aU ac m8 m9 aa ab).fs.inodes).length ak],aG dA ((aU ac m8 m9 aa ab).fs.data) [.slice al ((aU ac m8 m9 aa ab).fs.data).length am],bW g53 48 3 1 [.int .i64 ((aU ac m8 m9 aa ab).code),.slice aj ((aU ac m8 m9 aa ab).fs.inodes).length ak,.slice al ((aU ac m8 m9 aa ab).fs.data).length am],bW g46 27 2 1 [.slice av ac.inodes.length aw,.slice ax ac.data.length ay]]) (fun k=>k≤ac.inodes.length) (fun k=>ac.inodes.length - k) 0 (Nat.zero_le _) (.c .z (.c .g7 (.c .g9 (.c .g10 (.c .g12 (.c .g13 .n)))))) (fun _ h=>h.sel (.c .z (.c .z (.c .z (.c .z (.c .z (.c .z (.c .z .n)))))))) ?_
 rintro k hk
 refine Y.seq (Y.seq (Y.region (Y.mv rfl .z (Y.fa rfl .g6 aO (Y.ld rfl bT .z .g6 (Y.ql rfl (bE rfl cQ (.t .z)) (Y.ql rfl (cR rfl (.t .g3) (.t .z)) (Y.nil ?_))))))))
 refine Y.g ?_
 refine Y.u (.t .z) (fun e3=> ?_) (fun e3=> ?_)
 refine Y.skip (Y.g (Y.seq (Y.block (Y.seq ?_))))
 refine Y.dr .g5 17 gE ?_
 refine Y.sc (qs 0 4) (by kernel_rfl) ?_
 refine Y.dm rfl rfl .g5 .g5 (Y.dm rfl rfl .g5 .g10 (Y.dk rfl rfl .g5 (bY rfl (.t .g1) (.t .z)) (Y.dm rfl rfl .g5 .z (Y.aa ?_))))
 refine Y.ao .z (fun g97=> ?_) (fun g97=> ?_)
 refine Y.sc (qs 4 3++ [(10,true),(11,true),(7,false),(8,true)]) (by kernel_rfl) ?_
 refine Y.ag rfl rfl rfl .z rfl (by decide) rfl .g5 (aS rfl (.t .g11) (fun _=>mW _ _)) ?_
 refine Y.ag rfl rfl rfl .g1 rfl (by decide) rfl .g5 (lY (cs:= [.slice aj ((aU ac m8 m9 aa ab).fs.inodes).length ak,.slice al ((aU ac m8 m9 aa ab).fs.data).length am]) rfl bR aX (.t .z) (WS.u .z (qJ rfl))) ?_
 refine Y.ag rfl rfl rfl .g2 rfl (by decide) rfl .g5 (aN rfl (.t .g11)) ?_
 refine Y.ag rfl rfl rfl .g3 rfl (by decide) rfl .g5 (qW rfl bR (.t (.s16 .g1)) .g1 aX) ?_
 refine Y.ag rfl rfl rfl .g4 rfl (by decide) rfl .g5 (aN rfl (.t .g13)) ?_
 refine Y.call (eV rfl rfl rfl .g5) rfl (by decide) rfl (bG rfl Tryz.func13 rfl rfl (aR (.t .g3) (.t .g2))) .n (fun _ _ hs tr=>aA6 (aK ((aU ac m8 m9 aa ab).fs) (tr.own .g3) (tr.own .g4)) _) ?_
 rintro _ _ ⟨f0,rfl,rfl⟩
 refine Y.m (.c .n) ?_
 refine Y.h (WS.a .z) ?_
 rintro⟨bm,bn,rfl,b4,b5,b6⟩
 refine Y.sk .g6 ?_
 refine Y.ag rfl rfl rfl .g6 rfl (by decide) rfl .g6 (hP rfl (.t .z) (fun w=>nB w (.int .i64 ((bO ((aU ac m8 m9 aa ab).fs) (k:Int)).code)) (.slice bm ((bO ((aU ac m8 m9 aa ab).fs) (k:Int)).bytes).length bn))) ?_
 refine Y.aa ?_
 refine Y.ar (i:=9) (j:=12) (by kernel_rfl) ?_ ?_
 refine Y.q (eV rfl rfl rfl .g7) rfl (by decide) rfl (hJ (xs:=(bO ((aU ac m8 m9 aa ab).fs) (k:Int)).bytes) rfl dP u_5 u_9 (.t .z) (WS.r .z)) ?_
 refine Y.sk .g6 ?_
 refine Y.aa ?_
 refine Y.sc [(12,false),(13,true),(14,false),(15,true),(16,true)] (by kernel_rfl) ?_
 refine Y.call (eV rfl rfl rfl .g8) rfl (by decide) rfl (bG rfl Tryz.func13 rfl rfl (aR (.t .g4) (.t .g3))) .n (fun _ _ hs tr=>aA6 (aK ac (tr.ctx ah) (tr.ctx ai)) _) ?_
 rintro _ _ ⟨e4,rfl,rfl⟩
 refine Y.m (.c .n) ?_
 refine Y.h (WS.a .z) ?_
 rintro⟨bo,bp,rfl,b7,b8,b9⟩
 refine Y.sk .g7 ?_
 refine Y.ag rfl rfl rfl .g9 rfl (by decide) rfl .g7 (hP rfl (.t .z) (fun w=>nB w (.int .i64 ((bO ac (k:Int)).code)) (.slice bo ((bO ac (k:Int)).bytes).length bp))) ?_
 refine Y.q (eV rfl rfl rfl .g10) rfl (by decide) rfl (hJ (xs:=(bO ac (k:Int)).bytes) rfl dP u_5 u_9 (.t .z) (WS.r .z)) ?_
 refine Y.sk .g7 ?_
 refine Y.ag rfl rfl rfl .g11 rfl (by decide) rfl .g7 (qQ rfl (.t .g3) (.t .z)) ?_
 refine Y.dk rfl rfl .g7 (aZ rfl (.t .g12) (.t .z)) (Y.aa ?_)
 refine Y.ai (by kernel_rfl) ?_
 refine Y.g ?_
 refine Y.ac (.t .z) (fun ca=> ?_) (fun ca=> ?_)
 refine Y.seq (Y.region (Y.ql rfl (aA rfl .c) (Y.nt (Y.ret (Y.v (Y.j (Y.j ?_)))))))
 refine Y.v (Y.j ?_)
 refine Y.av (fun l w h=>ad _ _ (ae _ _ (af _ _ (ag _ _ (h))))) ?_
 refine Y.i (aT rfl .z) .n ?_
 first |(focus(exfalso;have h:=W6 _ (by assumption) (by assumption);simp_all;done)) | exact⟨rfl,rfl⟩ |(focus(exfalso;omega)) |(focus(exfalso;simp_all;done)) |(focus(refine⟨congrArg Value.bool ?_,rfl⟩;simp_all;done)) |(focus(refine⟨congrArg Value.bool ?_,rfl⟩;simp_all;omega))
 refine Y.skip (Y.w (Y.g (Y.region (Y.mv rfl (.s16 .g6) ?_))))
 refine Y.ql rfl (bA (c:=((k+1:Nat):Int)) rfl (.t .z) .c (wr (by omega) (by omega) (by omega))) ?_
 refine Y.er (.s16 .g8) (Y.as rfl .z (Y.nil ?_))
 refine Y.ae (k+1) (by omega) (by first | omega |(dsimp only;omega)) (.c .z (.c (.s16 .g9) (.c (.s16 .g10) (.c (.s16 .g11) (.c (.s16 .g12) (.c (.s16 .g13) .n)))))) (fun _ h=>h.sel (.c .g2 (.c .g2 (.c .g2 (.c .g2 (.c .g2 (.c .g2 (.c .g2 .n))))))))
 refine Y.call (eV rfl rfl rfl .g7) rfl (by decide) rfl (bG rfl Tryz.func13 rfl rfl (aR (.t .g3) (.t .g2))) .n (fun _ _ hs tr=>aA6 (aK ac (tr.ctx ah) (tr.ctx ai)) _) ?_
 rintro _ _ ⟨e5,rfl,rfl⟩
 refine Y.m (.c .n) ?_
 refine Y.h (WS.a .z) ?_
 rintro⟨bq,br,rfl,cb,cc,ce⟩
 refine Y.sk .g7 ?_
 refine Y.aa ?_
 refine Y.sc [(13,true)] (by kernel_rfl) ?_
 refine Y.ag rfl rfl rfl .g8 rfl (by decide) rfl .g7 (hP rfl (.t .z) (fun w=>nB w (.int .i64 ((bO ac (k:Int)).code)) (.slice bq ((bO ac (k:Int)).bytes).length br))) ?_
 refine Y.aa ?_
 refine Y.ar (i:=9) (j:=14) (by kernel_rfl) ?_ ?_
 refine Y.q (eV rfl rfl rfl .g9) rfl (by decide) rfl (hJ (xs:=(bO ((aU ac m8 m9 aa ab).fs) (k:Int)).bytes) rfl dP u_5 u_9 (.t .g2) (WS.r .g1)) ?_
 refine Y.sk .g7 ?_
 refine Y.aa ?_
 refine Y.sc [(14,false),(15,true),(16,true)] (by kernel_rfl) ?_
 refine Y.q (eV rfl rfl rfl .g10) rfl (by decide) rfl (hJ (xs:=(bO ac (k:Int)).bytes) rfl dP u_5 u_9 (.t .g1) (WS.r .z)) ?_
 refine Y.sk .g7 ?_
 refine Y.ag rfl rfl rfl .g11 rfl (by decide) rfl .g7 (qQ rfl (.t .g1) (.t .z)) ?_
 refine Y.dk rfl rfl .g7 (aZ rfl (.t .g12) (.t .z)) (Y.aa ?_)
 refine Y.ai (by kernel_rfl) ?_
 refine Y.g ?_
 refine Y.ac (.t .z) (fun cf=> ?_) (fun cf=> ?_)
 refine Y.seq (Y.region (Y.ql rfl (aA rfl .c) (Y.nt (Y.ret (Y.v (Y.j (Y.j ?_)))))))
 refine Y.v (Y.j ?_)
 refine Y.av (fun l w h=>ad _ _ (ae _ _ (af _ _ (ag _ _ (h))))) ?_
 refine Y.i (aT rfl .z) .n ?_
 first |(focus(exfalso;have h:=W6 _ (by assumption) (by assumption);simp_all;done)) | exact⟨rfl,rfl⟩ |(focus(exfalso;omega)) |(focus(exfalso;simp_all;done)) |(focus(refine⟨congrArg Value.bool ?_,rfl⟩;simp_all;done)) |(focus(refine⟨congrArg Value.bool ?_,rfl⟩;simp_all;omega))
 refine Y.skip (Y.w (Y.g (Y.region (Y.mv rfl (.s16 .g6) ?_))))
 refine Y.ql rfl (bA (c:=((k+1:Nat):Int)) rfl (.t .z) .c (wr (by omega) (by omega) (by omega))) ?_
 refine Y.er (.s16 .g8) (Y.as rfl .z (Y.nil ?_))
 refine Y.ae (k+1) (by omega) (by first | omega |(dsimp only;omega)) (.c .z (.c (.s16 .g9) (.c (.s16 .g10) (.c (.s16 .g11) (.c (.s16 .g12) (.c (.s16 .g13) .n)))))) (fun _ h=>h.sel (.c .g2 (.c .g2 (.c .g2 (.c .g2 (.c .g2 (.c .g2 (.c .g2 .n))))))))
 refine Y.q (eV rfl rfl rfl .g9) rfl (by decide) rfl (hJ (xs:=(bO ac (k:Int)).bytes) rfl dP u_5 u_9 (.t .z) (WS.r .z)) ?_
 refine Y.sk .g7 ?_
 refine Y.aa ?_
 refine Y.sc [(9,false),(15,true),(16,true)] (by kernel_rfl) ?_
 refine Y.q (eV rfl rfl rfl .g10) rfl (by decide) rfl (hJ (xs:=(bO ((aU ac m8 m9 aa ab).fs) (k:Int)).bytes) rfl dP u_5 u_9 (.t .g3) (WS.r .g1)) ?_
 refine Y.sk .g7 ?_
 refine Y.ag rfl rfl rfl .g11 rfl (by decide) rfl .g7 (qQ rfl (.t .z) (.t .g1)) ?_
 refine Y.dk rfl rfl .g7 (aZ rfl (.t .g12) (.t .z)) (Y.aa ?_)
 refine Y.ai (by kernel_rfl) ?_
 refine Y.g ?_
 refine Y.ac (.t .z) (fun cg=> ?_) (fun cg=> ?_)
 refine Y.seq (Y.region (Y.ql rfl (aA rfl .c) (Y.nt (Y.ret (Y.v (Y.j (Y.j ?_)))))))
 refine Y.v (Y.j ?_)
 refine Y.av (fun l w h=>ad _ _ (ae _ _ (af _ _ (ag _ _ (h))))) ?_
 refine Y.i (aT rfl .z) .n ?_
 first |(focus(exfalso;have h:=W6 _ (by assumption) (by assumption);simp_all;done)) | exact⟨rfl,rfl⟩ |(focus(exfalso;omega)) |(focus(exfalso;simp_all;done)) |(focus(refine⟨congrArg Value.bool ?_,rfl⟩;simp_all;done)) |(focus(refine⟨congrArg Value.bool ?_,rfl⟩;simp_all;omega))
 refine Y.skip (Y.w (Y.g (Y.region (Y.mv rfl (.s16 .g6) ?_))))
 refine Y.ql rfl (bA (c:=((k+1:Nat):Int)) rfl (.t .z) .c (wr (by omega) (by omega) (by omega))) ?_
 refine Y.er (.s16 .g8) (Y.as rfl .z (Y.nil ?_))
 refine Y.ae (k+1) (by omega) (by first | omega |(dsimp only;omega)) (.c .z (.c (.s16 .g9) (.c (.s16 .g10) (.c (.s16 .g11) (.c (.s16 .g12) (.c (.s16 .g13) .n)))))) (fun _ h=>h.sel (.c .g2 (.c .g2 (.c .g2 (.c .g2 (.c .g2 (.c .g2 (.c .g2 .n))))))))
 refine Y.sc (qs 4 13) (by kernel_rfl) ?_
 refine Y.ad rfl rfl rfl .z rfl rfl (by decide) rfl .g5 ?_
 refine Y.ad rfl rfl rfl .g1 rfl rfl (by decide) rfl .g5 ?_
 refine Y.ad rfl rfl rfl .g2 rfl rfl (by decide) rfl .g5 ?_
 refine Y.ad rfl rfl rfl .g3 rfl rfl (by decide) rfl .g5 ?_
 refine Y.ad rfl rfl rfl .g4 rfl rfl (by decide) rfl .g5 ?_
 refine Y.ad rfl rfl rfl .g5 rfl rfl (by decide) rfl .g5 ?_
 refine Y.ad rfl rfl rfl .g6 rfl rfl (by decide) rfl .g5 ?_
 refine Y.ad rfl rfl rfl .g7 rfl rfl (by decide) rfl .g5 ?_
 refine Y.ad rfl rfl rfl .g8 rfl rfl (by decide) rfl .g5 ?_
 refine Y.ad rfl rfl rfl .g9 rfl rfl (by decide) rfl .g5 ?_
 refine Y.ad rfl rfl rfl .g10 rfl rfl (by decide) rfl .g5 ?_
 refine Y.ad rfl rfl rfl .g11 rfl rfl (by decide) rfl .g5 ?_
 refine Y.dk rfl rfl .g5 (bJ rfl (.t .g12) .c) (Y.aa ?_)
 refine Y.ai (by kernel_rfl) ?_
 refine Y.g ?_
 refine Y.an (.t .z) ?_
 refine Y.skip (Y.w (Y.g (Y.region (Y.mv rfl (.s16 .g6) ?_))))
 refine Y.ql rfl (bA (c:=((k+1:Nat):Int)) rfl (.t .z) .c (wr (by omega) (by omega) (by omega))) ?_
 refine Y.er (.s16 .g8) (Y.as rfl .z (Y.nil ?_))
 refine Y.ae (k+1) (by omega) (by first | omega |(dsimp only;omega)) (.c .z (.c (.s16 .g9) (.c (.s16 .g10) (.c (.s16 .g11) (.c (.s16 .g12) (.c (.s16 .g13) .n)))))) (fun _ h=>h.sel (.c .z (.c .z (.c .z (.c .z (.c .z (.c .z (.c .z .n))))))))
 refine Y.exit (Y.y (Y.y (Y.aj (Y.g (Y.seq (Y.region (Y.mv rfl .g6 (Y.ql rfl (bE rfl dP (.t .z)) ?_))))))))
 refine Y.ql rfl (fT rfl (.t .z) .c) (Y.mv rfl .z ?_)
 refine Y.am .z (fun g110=> ?_) (fun g110=> ?_)
 refine Y.r rfl rfl .z rfl rfl (by decide) rfl ?_
 refine Y.r rfl rfl .g1 rfl rfl (by decide) rfl ?_
 refine Y.r rfl rfl .g2 rfl rfl (by decide) rfl ?_
 refine Y.ql rfl (aZ rfl (.t .g3) .c) (Y.as rfl .z (Y.nt (Y.ret ?_)))
 refine Y.av (fun l w h=>ad _ _ (ae _ _ (af _ _ (ag _ _ (h))))) ?_
 refine Y.i (aT rfl .z) .n ?_
 exact⟨rfl,rfl⟩
 refine Y.qg rfl rfl .z rfl rfl rfl (aN rfl (.t .g12)) ?_
 refine Y.qg rfl rfl .g1 rfl rfl rfl (bE rfl dP (.t .z)) ?_
 refine Y.qg rfl rfl .g2 rfl rfl rfl (bU rfl (.t .z) .c) ?_
 refine Y.ql rfl (bJ rfl (.t .g3) (.t .z)) (Y.as rfl .z (Y.nt (Y.ret ?_)))
 refine Y.av (fun l w h=>ad _ _ (ae _ _ (af _ _ (ag _ _ (h))))) ?_
 refine Y.i (aT rfl .z) .n ?_
 first |(focus(exfalso;have h:=W6 _ (by assumption) (by assumption);simp_all;done)) | exact⟨rfl,rfl⟩ |(focus(exfalso;omega)) |(focus(exfalso;simp_all;done)) |(focus(refine⟨congrArg Value.bool ?_,rfl⟩;simp_all;done)) |(focus(refine⟨congrArg Value.bool ?_,rfl⟩;simp_all;omega))
 refine Y.sc (qs 9 14) (by kernel_rfl) ?_
 refine Y.ad rfl rfl rfl .z rfl rfl (by decide) rfl .g4 ?_
 refine Y.ad rfl rfl rfl .g1 rfl rfl (by decide) rfl .g4 ?_
 refine Y.ad rfl rfl rfl .g2 rfl rfl (by decide) rfl .g4 ?_
 refine Y.ad rfl rfl rfl .g3 rfl rfl (by decide) rfl .g4 ?_
 refine Y.ag rfl rfl rfl .g8 rfl (by decide) rfl .g4 (bJ rfl (.t .g4) .c) ?_
 refine Y.dk rfl rfl .g4 (bJ rfl (.t .g9) (.t .z)) (Y.dm rfl rfl .g4 .z ?_)
 refine Y.ag rfl rfl rfl .z rfl (by decide) rfl .g4 (aN rfl (.t (.s16 .g5))) ?_
 refine Y.ag rfl rfl rfl .g1 rfl (by decide) rfl .g4 (bE rfl dP (.t .z)) ?_
 refine Y.ag rfl rfl rfl .g2 rfl (by decide) rfl .g4 (aN rfl (.t (.s16 .g13))) ?_
 refine Y.ag rfl rfl rfl .g3 rfl (by decide) rfl .g4 (bE rfl dP (.t .z)) ?_
 refine Y.ag rfl rfl rfl .g4 rfl (by decide) rfl .g4 (cR rfl (.t .g2) (.t .z)) ?_
 refine Y.dk rfl rfl .g4 (bJ rfl (.t .g5) (.t .z)) (Y.dm rfl rfl .g4 .z (Y.aa ?_))
 refine Y.am .z (fun g111=> ?_) (fun g111=> ?_)
 refine Y.sc (qs 23 13) (by kernel_rfl) ?_
 refine Y.ad rfl rfl rfl .z rfl rfl (by decide) rfl .g4 ?_
 refine Y.ad rfl rfl rfl .g1 rfl rfl (by decide) rfl .g4 ?_
 refine Y.ad rfl rfl rfl .g2 rfl rfl (by decide) rfl .g4 ?_
 refine Y.ad rfl rfl rfl .g3 rfl rfl (by decide) rfl .g4 ?_
 refine Y.ad rfl rfl rfl .g4 rfl rfl (by decide) rfl .g4 ?_
 refine Y.ad rfl rfl rfl .g5 rfl rfl (by decide) rfl .g4 ?_
 refine Y.ad rfl rfl rfl .g6 rfl rfl (by decide) rfl .g4 ?_
 refine Y.ad rfl rfl rfl .g7 rfl rfl (by decide) rfl .g4 ?_
 refine Y.ad rfl rfl rfl .g8 rfl rfl (by decide) rfl .g4 ?_
 refine Y.ad rfl rfl rfl .g9 rfl rfl (by decide) rfl .g4 ?_
 refine Y.ad rfl rfl rfl .g10 rfl rfl (by decide) rfl .g4 ?_
 refine Y.ad rfl rfl rfl .g11 rfl rfl (by decide) rfl .g4 ?_
 refine Y.dk rfl rfl .g4 (aZ rfl (.t .g12) .c) (Y.aa ?_)
 refine Y.ai (by kernel_rfl) ?_
 refine Y.g ?_
 refine Y.ap (.t .z) ?_
 refine Y.seq (Y.region (Y.er (.s16 (.s16 (.s16 (.s16 .g13)))) (Y.ql rfl (aA rfl .c) (Y.nt (Y.ret (Y.j ?_))))))
 refine Y.av (fun l w h=>ad _ _ (ae _ _ (af _ _ (ag _ _ (h))))) ?_
 refine Y.i (aT rfl .z) .n ?_
 first |(focus(exfalso;have h:=W6 _ (by assumption) (by assumption);simp_all;done)) | exact⟨rfl,rfl⟩ |(focus(exfalso;omega)) |(focus(exfalso;simp_all;done)) |(focus(refine⟨congrArg Value.bool ?_,rfl⟩;simp_all;done)) |(focus(refine⟨congrArg Value.bool ?_,rfl⟩;simp_all;omega))
 refine Y.sc (qs 23 6++ [(32,true),(33,true),(29,false),(30,true),(31,false),(34,true),(35,true)]) (by kernel_rfl) ?_
 refine Y.ag rfl rfl rfl .z rfl (by decide) rfl .g4 (aS rfl (.t (.s16 (.s16 .g10))) (fun _=>mW _ _)) ?_
 refine Y.ag rfl rfl rfl .g1 rfl (by decide) rfl .g4 (lY (cs:= [.slice aj ((aU ac m8 m9 aa ab).fs.inodes).length ak,.slice al ((aU ac m8 m9 aa ab).fs.data).length am]) rfl bR aX (.t .z) (WS.u .z (qJ rfl))) ?_
 refine Y.ag rfl rfl rfl .g2 rfl (by decide) rfl .g4 (aN rfl (.t (.s16 (.s16 (.s16 .g6))))) ?_
 refine Y.ag rfl rfl rfl .g3 rfl (by decide) rfl .g4 (aN rfl (.t (.s16 (.s16 (.s16 .g6))))) ?_
 refine Y.ag rfl rfl rfl .g4 rfl (by decide) rfl .g4 (aN rfl (.t (.s16 (.s16 (.s16 .g6))))) ?_
 refine Y.ag rfl rfl rfl .g5 rfl (by decide) rfl .g4 (bE rfl dP (.t .z)) ?_
 refine Y.ag rfl rfl rfl .g6 rfl (by decide) rfl .g4 (aN rfl (.t (.s16 (.s16 (.s16 .g8))))) ?_
 refine Y.ag rfl rfl rfl .g7 rfl (by decide) rfl .g4 (hJ (xs:=aa) rfl dP u_5 u_9 (.t .z) (WS.aa an)) ?_
 refine Y.call (eV rfl rfl rfl .g8) rfl (by decide) rfl (bG rfl Tryz.func10 rfl rfl (pK (.t .g6) (.t .g5) (.t .g4) (.t .g2))) .n (fun _ _ hs tr=>aLg (aK ((aU ac m8 m9 aa ab).fs) (tr.own .g2) (tr.own .g3)) _ _ _) ?_
 rintro _ _ ⟨e7,rfl,rfl⟩
 refine Y.m (.c .n) ?_
 refine Y.h (WS.a .z) ?_
 rintro⟨a0,a1,rfl,ch,ci,cj⟩
 refine Y.sk .g5 ?_
 refine Y.ag rfl rfl rfl .g9 rfl (by decide) rfl .g5 (hP rfl (.t .z) (fun w=>nB w (.int .i64 ((iR ((aU ac m8 m9 aa ab).fs) m8 m9 (aa.length:Int)).code)) (.slice a0 ((iR ((aU ac m8 m9 aa ab).fs) m8 m9 (aa.length:Int)).bytes).length a1))) ?_
 refine Y.q (eV rfl rfl rfl .g10) rfl (by decide) rfl (hJ (xs:=(iR ((aU ac m8 m9 aa ab).fs) m8 m9 (aa.length:Int)).bytes) rfl dP u_5 u_9 (.t .z) (WS.r .z)) ?_
 refine Y.sk .g5 ?_
 refine Y.ag rfl rfl rfl .g11 rfl (by decide) rfl .g5 (qQ rfl (.t .z) (.t .g3)) ?_
 refine Y.dk rfl rfl .g5 (bJ rfl (.t .g12) (.t .z)) (Y.aa ?_)
 refine Y.ai (by kernel_rfl) ?_
 refine Y.g ?_
 refine Y.ac (.t .z) (fun ck=> ?_) (fun ck=> ?_)
 refine Y.seq (Y.region (Y.er (.s16 (.s16 (.s16 (.s16 .g13)))) (Y.ql rfl (aA rfl .c) (Y.nt (Y.ret (Y.j ?_))))))
 refine Y.av (fun l w h=>ad _ _ (ae _ _ (af _ _ (ag _ _ (h))))) ?_
 refine Y.i (aT rfl .z) .n ?_
 first |(focus(exfalso;have h:=W6 _ (by assumption) (by assumption);simp_all;done)) | exact⟨rfl,rfl⟩ |(focus(exfalso;omega)) |(focus(exfalso;simp_all;done)) |(focus(refine⟨congrArg Value.bool ?_,rfl⟩;simp_all;done)) |(focus(refine⟨congrArg Value.bool ?_,rfl⟩;simp_all;omega))
 refine Y.skip (Y.g (Y.seq (Y.seq (Y.region (Y.ql rfl (aA rfl .c) (Y.nt (Y.block ?_)))))))
 refine Y.ak (γ:=Nat) (fun i=> [(12,.int .i64 (i:Int)),(11,.int .i64 (m9+(aa.length:Int))),(10,.slice ao ((bO ((aU ac m8 m9 aa ab).fs) m8).bytes).length ap),(9,.slice aq ((bO ac m8).bytes).length ar),(8,.pointer (some ⟨g53,0,none⟩)),(6,.slice bg aa.length bh),(5,.int .i64 m9),(4,.int .i64 m8),(3,.pointer (some ⟨g46,0,none⟩))]) (fun i=> [aG bQ ((iR ((aU ac m8 m9 aa ab).fs) m8 m9 (aa.length:Int)).bytes) [.slice a0 ((iR ((aU ac m8 m9 aa ab).fs) m8 m9 (aa.length:Int)).bytes).length a1],aG bQ ((bO ((aU ac m8 m9 aa ab).fs) m8).bytes) [.slice ao ((bO ((aU ac m8 m9 aa ab).fs) m8).bytes).length ap],aG bQ ((bO ac m8).bytes) [.slice aq ((bO ac m8).bytes).length ar],aG aW ((aU ac m8 m9 aa ab).fs.inodes) [.slice aj ((aU ac m8 m9 aa ab).fs.inodes).length ak],aG dA ((aU ac m8 m9 aa ab).fs.data) [.slice al ((aU ac m8 m9 aa ab).fs.data).length am],bW g53 48 3 1 [.int .i64 ((aU ac m8 m9 aa ab).code),.slice aj ((aU ac m8 m9 aa ab).fs.inodes).length ak,.slice al ((aU ac m8 m9 aa ab).fs.data).length am],bW g46 27 2 1 [.slice av ac.inodes.length aw,.slice ax ac.data.length ay]]) (fun i=>i≤(bO ((aU ac m8 m9 aa ab).fs) m8).bytes.length) (fun i=>(bO ((aU ac m8 m9 aa ab).fs) m8).bytes.length - i) 0 (Nat.zero_le _) (.c .z (.c (.s16 (.s16 .g5)) (.c (.s16 (.s16 .g10)) (.c (.s16 (.s16 .g16)) (.c (.s16 (.s16 (.s16 .g8))) (.c (.s16 (.s16 (.s16 .g16))) (.c (.s16 (.s16 (.s16 (.s16 .g1)))) (.c (.s16 (.s16 (.s16 (.s16 .g2)))) (.c (.s16 (.s16 (.s16 (.s16 .g3)))) .n))))))))) (fun _ h=>h.sel (.c .z (.c .z (.c .z (.c .z (.c .z (.c .z (.c .z .n)))))))) ?_
 rintro i hi
 refine Y.seq (Y.seq (Y.region (Y.mv rfl .z (Y.mv rfl .g3 (Y.ql rfl (bE rfl dP (.t .z)) (Y.ql rfl (cR rfl (.t .g2) (.t .z)) (Y.nt ?_)))))))
 refine Y.u (.t .z) (fun cm=> ?_) (fun cm=> ?_)
 refine Y.skip (Y.g (Y.seq (Y.block (Y.seq (Y.seq (Y.region (Y.mv rfl .g4 (Y.mv rfl .g11 ?_))))))))
 refine Y.ql rfl (mB rfl (.t .g1) (.t .z)) (Y.mv rfl .z ?_)
 refine Y.am .z (fun g117=> ?_) (fun g117=> ?_)
 refine Y.qg rfl rfl .z rfl rfl rfl (aN rfl (.t .g8)) ?_
 refine Y.qg rfl rfl .g1 rfl rfl rfl (aN rfl (.t .g10)) ?_
 refine Y.qg rfl rfl .g2 rfl rfl rfl (cR rfl (.t .g1) (.t .z)) ?_
 refine Y.ql rfl (aZ rfl (.t .g3) (.t .z)) (Y.nt ?_)
 refine Y.u (.t .z) (fun cn=> ?_) (fun cn=> ?_)
 refine Y.exit (Y.y (Y.aj (Y.g (Y.region (Y.mv rfl .g12 ?_)))))
 refine Y.ql rfl (bA (c:=((i+1:Nat):Int)) rfl (.t .z) .c (wr (by omega) (by omega) (by omega))) ?_
 refine Y.er .g14 (Y.as rfl .z (Y.nil ?_))
 refine Y.ae (i+1) (by omega) (by first | omega |(dsimp only;omega)) (.c .z (.c .g15 (.c .g16 (.c (.s16 .g1) (.c (.s16 .g2) (.c (.s16 .g3) (.c (.s16 .g4) (.c (.s16 .g5) (.c (.s16 .g6) .n))))))))) (fun _ h=>h.sel (.c .z (.c .z (.c .z (.c .z (.c .z (.c .z (.c .z .n))))))))
 refine Y.skip (Y.g (Y.seq (Y.region (Y.ql rfl (aA rfl .c) (Y.nt (Y.seq (Y.seq ?_)))))))
 refine Y.region (Y.mv rfl .g13 (Y.mv rfl (.s16 .g1) (Y.ql rfl (bE rfl dP (.t .z)) (Y.ql rfl (cR rfl (.t .g2) (.t .z)) (Y.nt ?_)))))
 refine Y.u (.t .z) (fun co=> ?_) (fun co=> ?_)
 refine Y.region (Y.mv rfl (.s16 .g4) (Y.mv rfl (.s16 .g2) ?_))
 refine Y.h (WS.g .g2 (by omega)) ?_
 rintro⟨eb,rfl⟩
 refine Y.ql rfl (aB (j:=i) rfl dP nJ (.t .g1) (.t .z) rfl (by omega)) ?_
 obtain⟨e8,a2⟩:=aI (xs:=(bO ac m8).bytes) (j:=i) (by omega)
 refine Y.ql rfl (aP rfl sL (.t .z) (WS.i .g2 a2)) (Y.er .g8 (Y.as rfl .z (Y.nt (Y.seq (Y.region (Y.mv rfl (.s16 .g7) (Y.mv rfl (.s16 .g6) ?_)))))))
 refine Y.h (WS.g .g1 (by omega)) ?_
 rintro⟨ec,rfl⟩
 refine Y.ql rfl (aB (j:=i) rfl dP nJ (.t .g1) (.t .z) rfl (by omega)) ?_
 obtain⟨e9,a3⟩:=aI (xs:=(bO ((aU ac m8 m9 aa ab).fs) m8).bytes) (j:=i) (by omega)
 refine Y.ql rfl (aP rfl sL (.t .z) (WS.i .g1 a3)) (Y.mv rfl .g4 (Y.ql rfl (bY rfl (.t .g1) (.t .z)) (Y.nt ?_)))
 refine Y.ac (.t .z) (fun cp=> ?_) (fun cp=> ?_)
 refine Y.seq (Y.region (Y.ql rfl (aA rfl .c) (Y.nt (Y.ret (Y.v (Y.j (Y.j ?_)))))))
 refine Y.v (Y.j ?_)
 refine Y.av (fun l w h=>ad _ _ (ae _ _ (af _ _ (ag _ _ (h))))) ?_
 refine Y.i (aT rfl .z) .n ?_
 first |(focus(exfalso;rcases W5 _ _ a3 (by omega) with h | h;(focus(rw [a2] at h;cases h;contradiction));(focus(have:=(List.getElem?_eq_some_iff.1 a2).1;omega)))) |(focus(exfalso;rcases W5 _ _ a3 (by omega) with h | h;(focus(have:=(List.getElem?_eq_some_iff.1 h).1;omega));(focus(have:=h.2;subst this;contradiction)))) |(focus(exfalso;have h:=W6 _ (by assumption) (by assumption);simp_all;done)) | exact⟨rfl,rfl⟩ |(focus(exfalso;omega)) |(focus(exfalso;simp_all;done)) |(focus(refine⟨congrArg Value.bool ?_,rfl⟩;simp_all;done)) |(focus(refine⟨congrArg Value.bool ?_,rfl⟩;simp_all;omega))
 refine Y.skip (Y.w (Y.g (Y.region (Y.mv rfl (.s16 .g11) ?_))))
 refine Y.ql rfl (bA (c:=((i+1:Nat):Int)) rfl (.t .z) .c (wr (by omega) (by omega) (by omega))) ?_
 refine Y.er (.s16 .g13) (Y.as rfl .z (Y.nil ?_))
 refine Y.ae (i+1) (by omega) (by first | omega |(dsimp only;omega)) (.c .z (.c (.s16 .g14) (.c (.s16 .g15) (.c (.s16 .g16) (.c (.s16 (.s16 .g1)) (.c (.s16 (.s16 .g2)) (.c (.s16 (.s16 .g3)) (.c (.s16 (.s16 .g4)) (.c (.s16 (.s16 .g5)) .n))))))))) (fun _ h=>h.sel (.c .z (.c .z (.c .z (.c .z (.c .z (.c .z (.c .z .n))))))))
 refine Y.skip (Y.g (Y.seq (Y.region (Y.mv rfl (.s16 .g3) (Y.mv rfl (.s16 .g2) ?_)))))
 refine Y.h (WS.g .g1 (by omega)) ?_
 rintro⟨ed,rfl⟩
 refine Y.ql rfl (aB (j:=i) rfl dP nJ (.t .g1) (.t .z) rfl (by omega)) ?_
 obtain⟨fb,a8⟩:=aI (xs:=(bO ((aU ac m8 m9 aa ab).fs) m8).bytes) (j:=i) (by omega)
 refine Y.ql rfl (aP rfl sL (.t .z) (WS.i .g1 a8)) (Y.mv rfl .g8 (Y.ql rfl (bY rfl (.t .g1) (.t .z)) (Y.nt ?_)))
 refine Y.ac (.t .z) (fun cq=> ?_) (fun cq=> ?_)
 refine Y.seq (Y.region (Y.ql rfl (aA rfl .c) (Y.nt (Y.ret (Y.v (Y.j (Y.j ?_)))))))
 refine Y.v (Y.j ?_)
 refine Y.av (fun l w h=>ad _ _ (ae _ _ (af _ _ (ag _ _ (h))))) ?_
 refine Y.i (aT rfl .z) .n ?_
 first |(focus(exfalso;rcases W5 _ _ a8 (by omega) with h | h;(focus(have:=(List.getElem?_eq_some_iff.1 h).1;omega));(focus(have:=h.2;subst this;contradiction)))) |(focus(exfalso;have h:=W6 _ (by assumption) (by assumption);simp_all;done)) | exact⟨rfl,rfl⟩ |(focus(exfalso;omega)) |(focus(exfalso;simp_all;done)) |(focus(refine⟨congrArg Value.bool ?_,rfl⟩;simp_all;done)) |(focus(refine⟨congrArg Value.bool ?_,rfl⟩;simp_all;omega))
 refine Y.skip (Y.w (Y.g (Y.region (Y.mv rfl (.s16 .g7) ?_))))
 refine Y.ql rfl (bA (c:=((i+1:Nat):Int)) rfl (.t .z) .c (wr (by omega) (by omega) (by omega))) ?_
 refine Y.er (.s16 .g9) (Y.as rfl .z (Y.nil ?_))
 refine Y.ae (i+1) (by omega) (by first | omega |(dsimp only;omega)) (.c .z (.c (.s16 .g10) (.c (.s16 .g11) (.c (.s16 .g12) (.c (.s16 .g13) (.c (.s16 .g14) (.c (.s16 .g15) (.c (.s16 .g16) (.c (.s16 (.s16 .g1)) .n))))))))) (fun _ h=>h.sel (.c .z (.c .z (.c .z (.c .z (.c .z (.c .z (.c .z .n))))))))
 refine Y.r rfl rfl .z rfl rfl (by decide) rfl ?_
 refine Y.r rfl rfl .g1 rfl rfl (by decide) rfl ?_
 refine Y.r rfl rfl .g2 rfl rfl (by decide) rfl ?_
 refine Y.ql rfl (bJ rfl (.t .g3) .c) (Y.nt ?_)
 refine Y.an (.t .z) ?_
 refine Y.skip (Y.g (Y.seq (Y.region (Y.ql rfl (aA rfl .c) (Y.nt (Y.seq (Y.seq ?_)))))))
 refine Y.region (Y.mv rfl .g13 (Y.mv rfl (.s16 .g1) (Y.ql rfl (bE rfl dP (.t .z)) (Y.ql rfl (cR rfl (.t .g2) (.t .z)) (Y.nt ?_)))))
 refine Y.u (.t .z) (fun cr=> ?_) (fun cr=> ?_)
 refine Y.region (Y.mv rfl (.s16 .g4) (Y.mv rfl (.s16 .g2) ?_))
 refine Y.h (WS.g .g2 (by omega)) ?_
 rintro⟨ee,rfl⟩
 refine Y.ql rfl (aB (j:=i) rfl dP nJ (.t .g1) (.t .z) rfl (by omega)) ?_
 obtain⟨fc,a4⟩:=aI (xs:=(bO ac m8).bytes) (j:=i) (by omega)
 refine Y.ql rfl (aP rfl sL (.t .z) (WS.i .g2 a4)) (Y.er .g8 (Y.as rfl .z (Y.nt (Y.seq (Y.region (Y.mv rfl (.s16 .g7) (Y.mv rfl (.s16 .g6) ?_)))))))
 refine Y.h (WS.g .g1 (by omega)) ?_
 rintro⟨ef,rfl⟩
 refine Y.ql rfl (aB (j:=i) rfl dP nJ (.t .g1) (.t .z) rfl (by omega)) ?_
 obtain⟨fd,a5⟩:=aI (xs:=(bO ((aU ac m8 m9 aa ab).fs) m8).bytes) (j:=i) (by omega)
 refine Y.ql rfl (aP rfl sL (.t .z) (WS.i .g1 a5)) (Y.mv rfl .g4 (Y.ql rfl (bY rfl (.t .g1) (.t .z)) (Y.nt ?_)))
 refine Y.ac (.t .z) (fun ct=> ?_) (fun ct=> ?_)
 refine Y.seq (Y.region (Y.ql rfl (aA rfl .c) (Y.nt (Y.ret (Y.v (Y.j (Y.j ?_)))))))
 refine Y.v (Y.j ?_)
 refine Y.av (fun l w h=>ad _ _ (ae _ _ (af _ _ (ag _ _ (h))))) ?_
 refine Y.i (aT rfl .z) .n ?_
 first |(focus(exfalso;rcases W5 _ _ a5 (by omega) with h | h;(focus(rw [a4] at h;cases h;contradiction));(focus(have:=(List.getElem?_eq_some_iff.1 a4).1;omega)))) |(focus(exfalso;rcases W5 _ _ a5 (by omega) with h | h;(focus(have:=(List.getElem?_eq_some_iff.1 h).1;omega));(focus(have:=h.2;subst this;contradiction)))) |(focus(exfalso;have h:=W6 _ (by assumption) (by assumption);simp_all;done)) | exact⟨rfl,rfl⟩ |(focus(exfalso;omega)) |(focus(exfalso;simp_all;done)) |(focus(refine⟨congrArg Value.bool ?_,rfl⟩;simp_all;done)) |(focus(refine⟨congrArg Value.bool ?_,rfl⟩;simp_all;omega))
 refine Y.skip (Y.w (Y.g (Y.region (Y.mv rfl (.s16 .g11) ?_))))
 refine Y.ql rfl (bA (c:=((i+1:Nat):Int)) rfl (.t .z) .c (wr (by omega) (by omega) (by omega))) ?_
 refine Y.er (.s16 .g13) (Y.as rfl .z (Y.nil ?_))
 refine Y.ae (i+1) (by omega) (by first | omega |(dsimp only;omega)) (.c .z (.c (.s16 .g14) (.c (.s16 .g15) (.c (.s16 .g16) (.c (.s16 (.s16 .g1)) (.c (.s16 (.s16 .g2)) (.c (.s16 (.s16 .g3)) (.c (.s16 (.s16 .g4)) (.c (.s16 (.s16 .g5)) .n))))))))) (fun _ h=>h.sel (.c .z (.c .z (.c .z (.c .z (.c .z (.c .z (.c .z .n))))))))
 refine Y.skip (Y.g (Y.seq (Y.region (Y.mv rfl (.s16 .g3) (Y.mv rfl (.s16 .g2) ?_)))))
 refine Y.h (WS.g .g1 (by omega)) ?_
 rintro⟨eg,rfl⟩
 refine Y.ql rfl (aB (j:=i) rfl dP nJ (.t .g1) (.t .z) rfl (by omega)) ?_
 obtain⟨fe,a9⟩:=aI (xs:=(bO ((aU ac m8 m9 aa ab).fs) m8).bytes) (j:=i) (by omega)
 refine Y.ql rfl (aP rfl sL (.t .z) (WS.i .g1 a9)) (Y.mv rfl .g8 (Y.ql rfl (bY rfl (.t .g1) (.t .z)) (Y.nt ?_)))
 refine Y.ac (.t .z) (fun cu=> ?_) (fun cu=> ?_)
 refine Y.seq (Y.region (Y.ql rfl (aA rfl .c) (Y.nt (Y.ret (Y.v (Y.j (Y.j ?_)))))))
 refine Y.v (Y.j ?_)
 refine Y.av (fun l w h=>ad _ _ (ae _ _ (af _ _ (ag _ _ (h))))) ?_
 refine Y.i (aT rfl .z) .n ?_
 first |(focus(exfalso;rcases W5 _ _ a9 (by omega) with h | h;(focus(have:=(List.getElem?_eq_some_iff.1 h).1;omega));(focus(have:=h.2;subst this;contradiction)))) |(focus(exfalso;have h:=W6 _ (by assumption) (by assumption);simp_all;done)) | exact⟨rfl,rfl⟩ |(focus(exfalso;omega)) |(focus(exfalso;simp_all;done)) |(focus(refine⟨congrArg Value.bool ?_,rfl⟩;simp_all;done)) |(focus(refine⟨congrArg Value.bool ?_,rfl⟩;simp_all;omega))
 refine Y.skip (Y.w (Y.g (Y.region (Y.mv rfl (.s16 .g7) ?_))))
 refine Y.ql rfl (bA (c:=((i+1:Nat):Int)) rfl (.t .z) .c (wr (by omega) (by omega) (by omega))) ?_
 refine Y.er (.s16 .g9) (Y.as rfl .z (Y.nil ?_))
 refine Y.ae (i+1) (by omega) (by first | omega |(dsimp only;omega)) (.c .z (.c (.s16 .g10) (.c (.s16 .g11) (.c (.s16 .g12) (.c (.s16 .g13) (.c (.s16 .g14) (.c (.s16 .g15) (.c (.s16 .g16) (.c (.s16 (.s16 .g1)) .n))))))))) (fun _ h=>h.sel (.c .z (.c .z (.c .z (.c .z (.c .z (.c .z (.c .z .n))))))))
 refine Y.exit (Y.y (Y.y (Y.aj (Y.g (Y.seq (Y.seq (Y.region (Y.ql rfl (aA rfl .c) ?_))))))))
 refine Y.nt (Y.block ?_)
 refine Y.ak (γ:=Nat) (fun k=> [(14,.int .i64 (k:Int)),(10,.slice ao ((bO ((aU ac m8 m9 aa ab).fs) m8).bytes).length ap),(8,.pointer (some ⟨g53,0,none⟩)),(6,.slice bg aa.length bh),(4,.int .i64 m8),(3,.pointer (some ⟨g46,0,none⟩))]) (fun k=> [aG bQ ((iR ((aU ac m8 m9 aa ab).fs) m8 m9 (aa.length:Int)).bytes) [.slice a0 ((iR ((aU ac m8 m9 aa ab).fs) m8 m9 (aa.length:Int)).bytes).length a1],aG bQ ((bO ((aU ac m8 m9 aa ab).fs) m8).bytes) [.slice ao ((bO ((aU ac m8 m9 aa ab).fs) m8).bytes).length ap],aG bQ ((bO ac m8).bytes) [.slice aq ((bO ac m8).bytes).length ar],aG aW ((aU ac m8 m9 aa ab).fs.inodes) [.slice aj ((aU ac m8 m9 aa ab).fs.inodes).length ak],aG dA ((aU ac m8 m9 aa ab).fs.data) [.slice al ((aU ac m8 m9 aa ab).fs.data).length am],bW g53 48 3 1 [.int .i64 ((aU ac m8 m9 aa ab).code),.slice aj ((aU ac m8 m9 aa ab).fs.inodes).length ak,.slice al ((aU ac m8 m9 aa ab).fs.data).length am],bW g46 27 2 1 [.slice av ac.inodes.length aw,.slice ax ac.data.length ay]]) (fun k=>k≤ac.inodes.length) (fun k=>ac.inodes.length - k) 0 (Nat.zero_le _) (.c .z (.c .g7 (.c .g9 (.c .g10 (.c .g12 (.c .g13 .n)))))) (fun _ h=>h.sel (.c .z (.c .z (.c .z (.c .z (.c .z (.c .z (.c .z .n)))))))) ?_
 rintro k hk
 refine Y.seq (Y.seq (Y.region (Y.mv rfl .z (Y.fa rfl .g6 aO (Y.ld rfl bT .z .g6 (Y.ql rfl (bE rfl cQ (.t .z)) (Y.ql rfl (cR rfl (.t .g3) (.t .z)) (Y.nil ?_))))))))
 refine Y.g ?_
 refine Y.u (.t .z) (fun cv=> ?_) (fun cv=> ?_)
 refine Y.skip (Y.g (Y.seq (Y.block (Y.seq ?_))))
 refine Y.dr .g5 17 gE ?_
 refine Y.sc (qs 0 4) (by kernel_rfl) ?_
 refine Y.dm rfl rfl .g5 .g5 (Y.dm rfl rfl .g5 .g10 (Y.dk rfl rfl .g5 (bY rfl (.t .g1) (.t .z)) (Y.dm rfl rfl .g5 .z (Y.aa ?_))))
 refine Y.ao .z (fun g138=> ?_) (fun g138=> ?_)
 refine Y.sc (qs 4 3++ [(10,true),(11,true),(7,false),(8,true)]) (by kernel_rfl) ?_
 refine Y.ag rfl rfl rfl .z rfl (by decide) rfl .g5 (aS rfl (.t .g11) (fun _=>mW _ _)) ?_
 refine Y.ag rfl rfl rfl .g1 rfl (by decide) rfl .g5 (lY (cs:= [.slice aj ((aU ac m8 m9 aa ab).fs.inodes).length ak,.slice al ((aU ac m8 m9 aa ab).fs.data).length am]) rfl bR aX (.t .z) (WS.u .z (qJ rfl))) ?_
 refine Y.ag rfl rfl rfl .g2 rfl (by decide) rfl .g5 (aN rfl (.t .g11)) ?_
 refine Y.ag rfl rfl rfl .g3 rfl (by decide) rfl .g5 (qW rfl bR (.t (.s16 .g1)) .g1 aX) ?_
 refine Y.ag rfl rfl rfl .g4 rfl (by decide) rfl .g5 (aN rfl (.t .g13)) ?_
 refine Y.call (eV rfl rfl rfl .g5) rfl (by decide) rfl (bG rfl Tryz.func13 rfl rfl (aR (.t .g3) (.t .g2))) .n (fun _ _ hs tr=>aA6 (aK ((aU ac m8 m9 aa ab).fs) (tr.own .g3) (tr.own .g4)) _) ?_
 rintro _ _ ⟨ff,rfl,rfl⟩
 refine Y.m (.c .n) ?_
 refine Y.h (WS.a .z) ?_
 rintro⟨bs,bt,rfl,cw,cx,cy⟩
 refine Y.sk .g6 ?_
 refine Y.ag rfl rfl rfl .g6 rfl (by decide) rfl .g6 (hP rfl (.t .z) (fun w=>nB w (.int .i64 ((bO ((aU ac m8 m9 aa ab).fs) (k:Int)).code)) (.slice bs ((bO ((aU ac m8 m9 aa ab).fs) (k:Int)).bytes).length bt))) ?_
 refine Y.aa ?_
 refine Y.ar (i:=9) (j:=12) (by kernel_rfl) ?_ ?_
 refine Y.q (eV rfl rfl rfl .g7) rfl (by decide) rfl (hJ (xs:=(bO ((aU ac m8 m9 aa ab).fs) (k:Int)).bytes) rfl dP u_5 u_9 (.t .z) (WS.r .z)) ?_
 refine Y.sk .g6 ?_
 refine Y.aa ?_
 refine Y.sc [(12,false),(13,true),(14,false),(15,true),(16,true)] (by kernel_rfl) ?_
 refine Y.call (eV rfl rfl rfl .g8) rfl (by decide) rfl (bG rfl Tryz.func13 rfl rfl (aR (.t .g4) (.t .g3))) .n (fun _ _ hs tr=>aA6 (aK ac (tr.ctx ah) (tr.ctx ai)) _) ?_
 rintro _ _ ⟨fg,rfl,rfl⟩
 refine Y.m (.c .n) ?_
 refine Y.h (WS.a .z) ?_
 rintro⟨bu,bv,rfl,cz,c1,c2⟩
 refine Y.sk .g7 ?_
 refine Y.ag rfl rfl rfl .g9 rfl (by decide) rfl .g7 (hP rfl (.t .z) (fun w=>nB w (.int .i64 ((bO ac (k:Int)).code)) (.slice bu ((bO ac (k:Int)).bytes).length bv))) ?_
 refine Y.q (eV rfl rfl rfl .g10) rfl (by decide) rfl (hJ (xs:=(bO ac (k:Int)).bytes) rfl dP u_5 u_9 (.t .z) (WS.r .z)) ?_
 refine Y.sk .g7 ?_
 refine Y.ag rfl rfl rfl .g11 rfl (by decide) rfl .g7 (qQ rfl (.t .g3) (.t .z)) ?_
 refine Y.dk rfl rfl .g7 (aZ rfl (.t .g12) (.t .z)) (Y.aa ?_)
 refine Y.ai (by kernel_rfl) ?_
 refine Y.g ?_
 refine Y.ac (.t .z) (fun c3=> ?_) (fun c3=> ?_)
 refine Y.seq (Y.region (Y.ql rfl (aA rfl .c) (Y.nt (Y.ret (Y.v (Y.j (Y.j ?_)))))))
 refine Y.v (Y.j ?_)
 refine Y.av (fun l w h=>ad _ _ (ae _ _ (af _ _ (ag _ _ (h))))) ?_
 refine Y.i (aT rfl .z) .n ?_
 first |(focus(exfalso;have h:=W6 _ (by assumption) (by assumption);simp_all;done)) | exact⟨rfl,rfl⟩ |(focus(exfalso;omega)) |(focus(exfalso;simp_all;done)) |(focus(refine⟨congrArg Value.bool ?_,rfl⟩;simp_all;done)) |(focus(refine⟨congrArg Value.bool ?_,rfl⟩;simp_all;omega))
 refine Y.skip (Y.w (Y.g (Y.region (Y.mv rfl (.s16 .g6) ?_))))
 refine Y.ql rfl (bA (c:=((k+1:Nat):Int)) rfl (.t .z) .c (wr (by omega) (by omega) (by omega))) ?_
 refine Y.er (.s16 .g8) (Y.as rfl .z (Y.nil ?_))
 refine Y.ae (k+1) (by omega) (by first | omega |(dsimp only;omega)) (.c .z (.c (.s16 .g9) (.c (.s16 .g10) (.c (.s16 .g11) (.c (.s16 .g12) (.c (.s16 .g13) .n)))))) (fun _ h=>h.sel (.c .g2 (.c .g2 (.c .g2 (.c .g2 (.c .g2 (.c .g2 (.c .g2 .n))))))))
 refine Y.call (eV rfl rfl rfl .g7) rfl (by decide) rfl (bG rfl Tryz.func13 rfl rfl (aR (.t .g3) (.t .g2))) .n (fun _ _ hs tr=>aA6 (aK ac (tr.ctx ah) (tr.ctx ai)) _) ?_
 rintro _ _ ⟨fh,rfl,rfl⟩
 refine Y.m (.c .n) ?_
 refine Y.h (WS.a .z) ?_
 rintro⟨bw,bx,rfl,c4,c5,c6⟩
 refine Y.sk .g7 ?_
 refine Y.aa ?_
 refine Y.sc [(13,true)] (by kernel_rfl) ?_
 refine Y.ag rfl rfl rfl .g8 rfl (by decide) rfl .g7 (hP rfl (.t .z) (fun w=>nB w (.int .i64 ((bO ac (k:Int)).code)) (.slice bw ((bO ac (k:Int)).bytes).length bx))) ?_
 refine Y.aa ?_
 refine Y.ar (i:=9) (j:=14) (by kernel_rfl) ?_ ?_
 refine Y.q (eV rfl rfl rfl .g9) rfl (by decide) rfl (hJ (xs:=(bO ((aU ac m8 m9 aa ab).fs) (k:Int)).bytes) rfl dP u_5 u_9 (.t .g2) (WS.r .g1)) ?_
 refine Y.sk .g7 ?_
 refine Y.aa ?_
 refine Y.sc [(14,false),(15,true),(16,true)] (by kernel_rfl) ?_
 refine Y.q (eV rfl rfl rfl .g10) rfl (by decide) rfl (hJ (xs:=(bO ac (k:Int)).bytes) rfl dP u_5 u_9 (.t .g1) (WS.r .z)) ?_
 refine Y.sk .g7 ?_
 refine Y.ag rfl rfl rfl .g11 rfl (by decide) rfl .g7 (qQ rfl (.t .g1) (.t .z)) ?_
 refine Y.dk rfl rfl .g7 (aZ rfl (.t .g12) (.t .z)) (Y.aa ?_)
 refine Y.ai (by kernel_rfl) ?_
 refine Y.g ?_
 refine Y.ac (.t .z) (fun c7=> ?_) (fun c7=> ?_)
 refine Y.seq (Y.region (Y.ql rfl (aA rfl .c) (Y.nt (Y.ret (Y.v (Y.j (Y.j ?_)))))))
 refine Y.v (Y.j ?_)
 refine Y.av (fun l w h=>ad _ _ (ae _ _ (af _ _ (ag _ _ (h))))) ?_
 refine Y.i (aT rfl .z) .n ?_
 first |(focus(exfalso;have h:=W6 _ (by assumption) (by assumption);simp_all;done)) | exact⟨rfl,rfl⟩ |(focus(exfalso;omega)) |(focus(exfalso;simp_all;done)) |(focus(refine⟨congrArg Value.bool ?_,rfl⟩;simp_all;done)) |(focus(refine⟨congrArg Value.bool ?_,rfl⟩;simp_all;omega))
 refine Y.skip (Y.w (Y.g (Y.region (Y.mv rfl (.s16 .g6) ?_))))
 refine Y.ql rfl (bA (c:=((k+1:Nat):Int)) rfl (.t .z) .c (wr (by omega) (by omega) (by omega))) ?_
 refine Y.er (.s16 .g8) (Y.as rfl .z (Y.nil ?_))
 refine Y.ae (k+1) (by omega) (by first | omega |(dsimp only;omega)) (.c .z (.c (.s16 .g9) (.c (.s16 .g10) (.c (.s16 .g11) (.c (.s16 .g12) (.c (.s16 .g13) .n)))))) (fun _ h=>h.sel (.c .g2 (.c .g2 (.c .g2 (.c .g2 (.c .g2 (.c .g2 (.c .g2 .n))))))))
 refine Y.q (eV rfl rfl rfl .g9) rfl (by decide) rfl (hJ (xs:=(bO ac (k:Int)).bytes) rfl dP u_5 u_9 (.t .z) (WS.r .z)) ?_
 refine Y.sk .g7 ?_
 refine Y.aa ?_
 refine Y.sc [(9,false),(15,true),(16,true)] (by kernel_rfl) ?_
 refine Y.q (eV rfl rfl rfl .g10) rfl (by decide) rfl (hJ (xs:=(bO ((aU ac m8 m9 aa ab).fs) (k:Int)).bytes) rfl dP u_5 u_9 (.t .g3) (WS.r .g1)) ?_
 refine Y.sk .g7 ?_
 refine Y.ag rfl rfl rfl .g11 rfl (by decide) rfl .g7 (qQ rfl (.t .z) (.t .g1)) ?_
 refine Y.dk rfl rfl .g7 (aZ rfl (.t .g12) (.t .z)) (Y.aa ?_)
 refine Y.ai (by kernel_rfl) ?_
 refine Y.g ?_
 refine Y.ac (.t .z) (fun c8=> ?_) (fun c8=> ?_)
 refine Y.seq (Y.region (Y.ql rfl (aA rfl .c) (Y.nt (Y.ret (Y.v (Y.j (Y.j ?_)))))))
 refine Y.v (Y.j ?_)
 refine Y.av (fun l w h=>ad _ _ (ae _ _ (af _ _ (ag _ _ (h))))) ?_
 refine Y.i (aT rfl .z) .n ?_
 first |(focus(exfalso;have h:=W6 _ (by assumption) (by assumption);simp_all;done)) | exact⟨rfl,rfl⟩ |(focus(exfalso;omega)) |(focus(exfalso;simp_all;done)) |(focus(refine⟨congrArg Value.bool ?_,rfl⟩;simp_all;done)) |(focus(refine⟨congrArg Value.bool ?_,rfl⟩;simp_all;omega))
 refine Y.skip (Y.w (Y.g (Y.region (Y.mv rfl (.s16 .g6) ?_))))
 refine Y.ql rfl (bA (c:=((k+1:Nat):Int)) rfl (.t .z) .c (wr (by omega) (by omega) (by omega))) ?_
 refine Y.er (.s16 .g8) (Y.as rfl .z (Y.nil ?_))
 refine Y.ae (k+1) (by omega) (by first | omega |(dsimp only;omega)) (.c .z (.c (.s16 .g9) (.c (.s16 .g10) (.c (.s16 .g11) (.c (.s16 .g12) (.c (.s16 .g13) .n)))))) (fun _ h=>h.sel (.c .g2 (.c .g2 (.c .g2 (.c .g2 (.c .g2 (.c .g2 (.c .g2 .n))))))))
 refine Y.sc (qs 4 13) (by kernel_rfl) ?_
 refine Y.ad rfl rfl rfl .z rfl rfl (by decide) rfl .g5 ?_
 refine Y.ad rfl rfl rfl .g1 rfl rfl (by decide) rfl .g5 ?_
 refine Y.ad rfl rfl rfl .g2 rfl rfl (by decide) rfl .g5 ?_
 refine Y.ad rfl rfl rfl .g3 rfl rfl (by decide) rfl .g5 ?_
 refine Y.ad rfl rfl rfl .g4 rfl rfl (by decide) rfl .g5 ?_
 refine Y.ad rfl rfl rfl .g5 rfl rfl (by decide) rfl .g5 ?_
 refine Y.ad rfl rfl rfl .g6 rfl rfl (by decide) rfl .g5 ?_
 refine Y.ad rfl rfl rfl .g7 rfl rfl (by decide) rfl .g5 ?_
 refine Y.ad rfl rfl rfl .g8 rfl rfl (by decide) rfl .g5 ?_
 refine Y.ad rfl rfl rfl .g9 rfl rfl (by decide) rfl .g5 ?_
 refine Y.ad rfl rfl rfl .g10 rfl rfl (by decide) rfl .g5 ?_
 refine Y.ad rfl rfl rfl .g11 rfl rfl (by decide) rfl .g5 ?_
 refine Y.dk rfl rfl .g5 (bJ rfl (.t .g12) .c) (Y.aa ?_)
 refine Y.ai (by kernel_rfl) ?_
 refine Y.g ?_
 refine Y.an (.t .z) ?_
 refine Y.skip (Y.w (Y.g (Y.region (Y.mv rfl (.s16 .g6) ?_))))
 refine Y.ql rfl (bA (c:=((k+1:Nat):Int)) rfl (.t .z) .c (wr (by omega) (by omega) (by omega))) ?_
 refine Y.er (.s16 .g8) (Y.as rfl .z (Y.nil ?_))
 refine Y.ae (k+1) (by omega) (by first | omega |(dsimp only;omega)) (.c .z (.c (.s16 .g9) (.c (.s16 .g10) (.c (.s16 .g11) (.c (.s16 .g12) (.c (.s16 .g13) .n)))))) (fun _ h=>h.sel (.c .z (.c .z (.c .z (.c .z (.c .z (.c .z (.c .z .n))))))))
 refine Y.exit (Y.y (Y.y (Y.aj (Y.g (Y.seq (Y.region (Y.mv rfl .g6 (Y.ql rfl (bE rfl dP (.t .z)) ?_))))))))
 refine Y.ql rfl (fT rfl (.t .z) .c) (Y.mv rfl .z ?_)
 refine Y.am .z (fun g151=> ?_) (fun g151=> ?_)
 refine Y.r rfl rfl .z rfl rfl (by decide) rfl ?_
 refine Y.r rfl rfl .g1 rfl rfl (by decide) rfl ?_
 refine Y.r rfl rfl .g2 rfl rfl (by decide) rfl ?_
 refine Y.ql rfl (aZ rfl (.t .g3) .c) (Y.as rfl .z (Y.nt (Y.ret ?_)))
 refine Y.av (fun l w h=>ad _ _ (ae _ _ (af _ _ (ag _ _ (h))))) ?_
 refine Y.i (aT rfl .z) .n ?_
 exact⟨rfl,rfl⟩
 refine Y.qg rfl rfl .z rfl rfl rfl (aN rfl (.t .g12)) ?_
 refine Y.qg rfl rfl .g1 rfl rfl rfl (bE rfl dP (.t .z)) ?_
 refine Y.qg rfl rfl .g2 rfl rfl rfl (bU rfl (.t .z) .c) ?_
 refine Y.ql rfl (bJ rfl (.t .g3) (.t .z)) (Y.as rfl .z (Y.nt (Y.ret ?_)))
 refine Y.av (fun l w h=>ad _ _ (ae _ _ (af _ _ (ag _ _ (h))))) ?_
 refine Y.i (aT rfl .z) .n ?_
 first |(focus(exfalso;have h:=W6 _ (by assumption) (by assumption);simp_all;done)) | exact⟨rfl,rfl⟩ |(focus(exfalso;omega)) |(focus(exfalso;simp_all;done)) |(focus(refine⟨congrArg Value.bool ?_,rfl⟩;simp_all;done)) |(focus(refine⟨congrArg Value.bool ?_,rfl⟩;simp_all;omega))

end Go.Proofs.YtmejbfmhaoilmaaGreat

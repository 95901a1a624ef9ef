/- What is proved: contracts of functions, one a function. No condition. -/
import Derived.Test.YtmejbfmhaoilmaaGreatDoorBase1
import Derived.Test.YtmejbfmhaoilmaaGreatDoorPart6
import Derived.Test.YtmejbfmhaoilmaaGreatDoorW92
import Derived.Test.YtmejbfmhaoilmaaGreatDoorPart7
import Derived.Test.YtmejbfmhaoilmaaGreatDoorPart2
import Derived.Test.YtmejbfmhaoilmaaGreatDoorTypesA
import Derived.Test.YtmejbfmhaoilmaaGreatDoorBase2
namespace Go.Proofs.YtmejbfmhaoilmaaGreatDoor
open Go Go.RowKit
set_option linter.unusedVariables false
set_option linter.unusedSimpArgs false
set_option maxHeartbeats 1000000
set_option maxRecDepth 20000
theorem c_3 {w0:World}{S0:Bs}{cd:(List UInt8)}{v0:Value} (h0:dD.ro w0 (FF w0 S0) cd [v0]) (hG:iS xX w0 (FF w0 S0)):
    Calls Tryz.prog 3 #[v0] w0 (aI w0 S0 (fun r l=>r= .bool true∧l= [])):=by
 obtain⟨A0,c0,rfl,cp,cq,cr,cs⟩:=aD h0
 refine Y.enter (N:=126) Tryz.func3 rfl rfl (by simp) [(0,.slice A0 cd.length c0)] (by simp) (l0:= []) trivial ?_
 refine Y.seq (Y.region (Y.ql rfl (aA rfl .c) (Y.nt (Y.seq (Y.seq (Y.region (Y.mv rfl .g1 ?_)))))))
 refine Y.cl rfl rfl Tryz.func4 rfl rfl (bG (.t .z)) .n (fun _ _ hs tr=>c_4 (tr.ctx h0)) ?_
 rintro _ _ ⟨rfl,rfl⟩
 refine Y.m .n ?_
 refine Y.nt ?_
 refine Y.u (.t .z) (fun b2=> ?_) (fun b2=> ?_)
 refine Y.seq (Y.region (Y.er .g2 (Y.ql rfl (aA rfl .c) (Y.nt (Y.ret (Y.j ?_))))))
 refine Y.i (aU rfl .z) .n ?_
 exact⟨rfl,rfl⟩
 refine Y.skip (Y.g (Y.seq (Y.region (Y.mv rfl .g3 ?_))))
 refine Y.cl rfl rfl Tryz.func5 rfl rfl (bG (.t .z)) .n (fun _ _ hs tr=>c_5 (tr.ctx h0) (by omega)) ?_
 rintro _ _ ⟨aa,v4,v6,bv,rfl,rfl⟩
 refine Y.m (.c (.c .n)) ?_
 refine Y.h (WS.v .z) ?_
 rintro⟨az,a0,rfl,ca,cb,cc⟩
 refine Y.h (WS.v .g1) ?_
 rintro⟨a1,a2,rfl,ce,cf,cg⟩
 refine Y.a1 .z ?_
 intro w0 S0 ap ab ag
 replace h0:=ap h0
 replace hG:=iS.fz ap hG
 refine Y.a1 .z ?_
 intro w0 S0 ak ac ah
 replace ab:=ak ab
 replace h0:=ak h0
 replace hG:=iS.fz ak hG
 refine Y.el rfl (bB rfl rG rfl rfl) ?_
 rintro _ _ ⟨g21,rfl,rfl⟩
 refine Y.es (aE rfl) rfl (esW rfl (.t .z) (.t .g1) .z bA rfl rfl) ?_
 refine Y.nt (Y.seq (Y.region (Y.ql rfl (qW rfl bX (.t .z) .z bA) ?_)))
 refine Y.cl rfl rfl Tryz.func6 rfl rfl (bG (.t .z)) .n (fun _ _ hs tr=>c_6 (aJ aa (tr.ctx ab) (tr.ctx ac))) ?_
 rintro _ _ ⟨ct,rfl,rfl⟩
 refine Y.m (.c .n) ?_
 refine Y.h (WS.a .z) ?_
 rintro⟨bi,al,rfl,bw,bx,bz⟩
 refine Y.az .z ?_
 intro w0 S0 aj a3 ai
 replace ab:=aj ab
 replace ac:=aj ac
 replace h0:=aj h0
 replace hG:=iS.fz aj hG
 refine Y.el rfl (bB rfl aGd rfl rfl) ?_
 rintro _ _ ⟨g36,rfl,rfl⟩
 refine Y.es (aE rfl) rfl (esW rfl (.t .z) (.t .g1) .z nF rfl rfl) ?_
 refine Y.nt (Y.seq (Y.seq (Y.region (Y.fa rfl .z wM (Y.ld rfl bP .z .z (Y.ql rfl (bW rfl (.t .z) .c) (Y.nil ?_)))))))
 refine Y.g ?_
 refine Y.ac (.t .z) (fun b0=> ?_) (fun b0=> ?_)
 refine Y.seq ?_
 refine Y.dr .z 6 fR ?_
 refine Y.sc [(0,true),(3,true),(4,true),(1,false),(2,true),(5,true),(6,false)] (by kernel_rfl) ?_
 refine Y.dk rfl rfl .z (qW rfl bX (.t .g6) .g1 bA) (Y.df rfl rfl .z .g4 wM (Y.dl rfl rfl .z bP .z .z ?_))
 refine Y.call (aC rfl rfl) rfl (by decide) rfl (bE rfl Tryz.func7 rfl rfl (bG (.t .g2))) .n (fun _ _ hs tr=>c_7 (aJ aa (tr.ctx ab) (tr.ctx ac))) ?_
 rintro _ _ ⟨cu,rfl,rfl⟩
 refine Y.m (.c .n) ?_
 refine Y.h (WS.a .z) ?_
 rintro⟨bj,bk,rfl,b1,b3,b4⟩
 refine Y.sk .g1 ?_
 refine Y.dk rfl rfl .g1 (kK rfl (.t .z) (fun w=>aJq w (.int .i64 ((gV aa).code)) (.slice bj ((gV aa).names).length bk))) (Y.dk rfl rfl .g1 (bU rfl (.t .z) (.t .g2)) (Y.er (.s16 .g1) ?_))
 refine Y.q (aC rfl rfl) rfl (by decide) rfl (aA rfl (.t .z)) ?_
 refine Y.sl rfl ?_
 refine Y.w ?_
 refine Y.af (by kernel_rfl) ?_
 refine Y.g (Y.ret (Y.j ?_))
 refine Y.ay (fun l w h=>ag _ _ (ah _ _ (ai _ _ (h)))) ?_
 refine Y.i (aU rfl .z) .n ?_
 first |(focus(exact⟨congrArg Value.bool (decide_eq_true K3),rfl⟩)) |(focus(contradiction)) | exact⟨rfl,rfl⟩ |(focus(exfalso;omega)) |(focus(exfalso;simp_all;done)) |(focus(refine⟨congrArg Value.bool ?_,rfl⟩;simp_all;done)) |(focus(refine⟨congrArg Value.bool ?_,rfl⟩;simp_all;omega))
 obtain⟨K2,K1,K3⟩:=aFo b0
 refine Y.skip (Y.g (Y.seq (Y.seq (Y.region (Y.ql rfl (aA rfl .c) (Y.nt (Y.block ?_)))))))
 refine Y.ai (γ:=Nat) (fun k=> [(5,.int .i64 (k:Int)),(4,.pointer (some ⟨g36,0,none⟩)),(3,.pointer (some ⟨g21,0,none⟩))]) (fun k=> [bV g36 31 2 1 [.int .i64 ((gV aa).code),.slice bi ((gV aa).names).length al],bV g21 27 2 1 [.slice az aa.inodes.length a0,.slice a1 aa.data.length a2]]) (fun k=>k≤(gV aa).names.length) (fun k=>(gV aa).names.length - k) 0 (Nat.zero_le _) (.c .z (.c .g4 (.c .g7 .n))) (fun _ h=>h.sel (.c .z (.c .z .n))) ?_
 rintro k hk
 refine Y.seq (Y.seq (Y.region (Y.mv rfl .z (Y.fa rfl .g2 mP (Y.ld rfl rF .z .z (Y.ql rfl (bD rfl eQ (.t .z)) (Y.ql rfl (dA rfl (.t .g3) (.t .z)) (Y.nil ?_))))))))
 refine Y.g ?_
 refine Y.u (.t .z) (fun ch=> ?_) (fun ch=> ?_)
 refine Y.skip (Y.g (Y.seq (Y.block (Y.seq (Y.seq (Y.region (Y.fa rfl .g6 mP (Y.ld rfl rF .z .z ?_))))))))
 refine Y.mv rfl .g7 ?_
 obtain⟨an,aq,ar⟩:=(aH2 a3) (by omega)
 subst aq
 obtain⟨ad,a4⟩:=aK (xs:=(gV aa).names) (j:=k) (by omega)
 obtain⟨b5,a5,ae,af⟩:=ar.elem a4
 obtain⟨rfl,ci⟩:=a5
 obtain⟨⟨A1,A2,A3,A4,A5,A6,A7⟩,A8⟩:=K2 _ _ a4
 refine Y.ql rfl (aB (j:=k) rfl eQ mU (.t .g1) (.t .z) rfl (by omega)) ?_
 refine Y.ql rfl (aM rfl iH (.t .z) (WS.i ae af rfl)) (Y.ql rfl (lZ rfl u_9 (.t .z)) (Y.ql rfl (fI rfl (.t .z) .c) (Y.nt ?_)))
 refine Y.u (.t .z) (fun cj=> ?_) (fun cj=> ?_)
 refine Y.exit (Y.y (Y.ag (Y.g (Y.region (Y.mv rfl .g12 ?_)))))
 refine Y.ql rfl (bN (c:=((k+1:Nat):Int)) rfl (.t .z) .c (wr (by omega) (by omega) (by omega))) ?_
 refine Y.er .g14 (Y.as rfl .z (Y.nil ?_))
 refine Y.ae (k+1) (by omega) (by first | omega |(dsimp only;omega)) (.c .z (.c .g15 (.c .g16 .n))) (fun _ h=>h.sel (.c .z (.c .z .n)))
 refine Y.skip (Y.g ?_)
 refine Y.aw (γ:=Nat) (fun am=> [(5,.int .i64 (k:Int)),(4,.pointer (some ⟨g36,0,none⟩)),(3,.pointer (some ⟨g21,0,none⟩)),(6,.pointer (some ⟨am,0,none⟩))]) (fun am=> [bV am 34 2 1 [.int .i64 ((jR aa ad).code),.int .i64 ((jR aa ad).val)],bV g36 31 2 1 [.int .i64 ((gV aa).code),.slice (some an) ((gV aa).names).length al],bV g21 27 2 1 [.slice az aa.inodes.length a0,.slice a1 aa.data.length a2]]) (fun am=>True) ?_ ?_
 refine Y.dr .z 8 fR ?_
 refine Y.sc (qs 0 6) (by kernel_rfl) ?_
 refine Y.dk rfl rfl .z (qW rfl bX (.t .g14) .g1 bA) (Y.df rfl rfl .z .g14 mP (Y.dl rfl rfl .z rF .z .z (Y.dm rfl rfl .z .g15 ?_)))
 refine Y.dk rfl rfl .z (aB (j:=k) rfl eQ mU (.t .g1) (.t .z) rfl (by omega)) ?_
 refine Y.dk rfl rfl .z (aM rfl iH (.t .z) (WS.i ae af rfl)) (Y.w ?_)
 refine Y.ar (i:=6) (j:=7) (by kernel_rfl) ?_ ?_
 refine Y.call (aC rfl rfl) rfl (by decide) rfl (bE rfl Tryz.func8 rfl rfl (aS (.t .g5) (.t .z))) .n (fun _ _ hs tr=>c_8 (aJ aa (tr.ctx ab) (tr.ctx ac)) _ (by first | assumption | omega | decide) (iS.tr tr hG)) ?_
 rintro _ _ ⟨rfl,rfl⟩
 refine Y.m .n ?_
 refine Y.sk .z ?_
 refine Y.w ?_
 refine Y.sc [(7,false),(8,false)] (by kernel_rfl) ?_
 refine Y.e (aC rfl rfl) rfl (by decide) rfl (bB rfl yQ rfl rfl) ?_
 rintro _ _ ⟨g46,rfl,rfl⟩
 refine Y.sk .g1 ?_
 refine Y.es (aC rfl rfl) rfl (esW rfl (.t .z) (.t .g1) .z kH rfl rfl) ?_
 refine Y.sl rfl ?_
 refine Y.w ?_
 refine Y.af (by kernel_rfl) ?_
 exact Y.ao g46 trivial (.c (.s16 .g4) (.c (.s16 .g5) (.c (.s16 .g6) (.c .z .n)))) (fun _ h=>h.sel (.c .z (.c .z (.c .z .n))))
 refine Y.e (aC rfl rfl) rfl (by decide) rfl (bB rfl yQ rfl rfl) ?_
 rintro _ _ ⟨g47,rfl,rfl⟩
 refine Y.sk .g1 ?_
 refine Y.w ?_
 refine Y.sc [(6,false),(8,false)] (by kernel_rfl) ?_
 refine Y.call (aC rfl rfl) rfl (by decide) rfl (bE rfl Tryz.func8 rfl rfl (aS (.t .g6) (.t .g1))) .n (fun _ _ hs tr=>c_8 (aJ aa (tr.ctx ab) (tr.ctx ac)) _ (by first | assumption | omega | decide) (iS.tr tr hG)) ?_
 rintro _ _ ⟨rfl,rfl⟩
 refine Y.m .n ?_
 refine Y.sk .g1 ?_
 refine Y.es (aC rfl rfl) rfl (esW rfl (.t .g1) (.t .z) .z kH rfl rfl) ?_
 refine Y.sl rfl ?_
 refine Y.w ?_
 refine Y.af (by kernel_rfl) ?_
 exact Y.ao g47 trivial (.c (.s16 .g4) (.c (.s16 .g5) (.c (.s16 .g6) (.c .g1 .n)))) (fun _ h=>h.sel (.c .z (.c .z (.c .z .n))))
 rintro am -
 refine Y.aw (γ:=Nat) (fun ao=> [(5,.int .i64 (k:Int)),(4,.pointer (some ⟨g36,0,none⟩)),(3,.pointer (some ⟨g21,0,none⟩)),(6,.pointer (some ⟨am,0,none⟩)),(7,.pointer (some ⟨ao,0,none⟩))]) (fun ao=> [bV ao 34 2 1 [.int .i64 ((qF aa ad).code),.int .i64 ((qF aa ad).val)],bV am 34 2 1 [.int .i64 ((jR aa ad).code),.int .i64 ((jR aa ad).val)],bV g36 31 2 1 [.int .i64 ((gV aa).code),.slice (some an) ((gV aa).names).length al],bV g21 27 2 1 [.slice az aa.inodes.length a0,.slice a1 aa.data.length a2]]) (fun ao=>True) ?_ ?_
 refine Y.dr .z 8 fR ?_
 refine Y.sc (qs 0 6) (by kernel_rfl) ?_
 refine Y.dk rfl rfl .z (qW rfl bX (.t .g2) .g2 bA) (Y.df rfl rfl .z .g2 mP (Y.dl rfl rfl .z rF .z .g1 (Y.dm rfl rfl .z .g3 ?_)))
 refine Y.dk rfl rfl .z (aB (j:=k) rfl eQ mU (.t .g1) (.t .z) rfl (by omega)) ?_
 refine Y.dk rfl rfl .z (aM rfl iH (.t .z) (WS.i ae af rfl)) (Y.w ?_)
 refine Y.ar (i:=6) (j:=7) (by kernel_rfl) ?_ ?_
 refine Y.call (aC rfl rfl) rfl (by decide) rfl (bE rfl Tryz.func9 rfl rfl (aS (.t .g5) (.t .z))) .n (fun _ _ hs tr=>c_9 (aJ aa (tr.ctx ab) (tr.ctx ac)) _ (by first | assumption | omega | decide) (iS.tr tr hG)) ?_
 rintro _ _ ⟨rfl,rfl⟩
 refine Y.m .n ?_
 refine Y.sk .z ?_
 refine Y.w ?_
 refine Y.sc [(7,false),(8,false)] (by kernel_rfl) ?_
 refine Y.e (aC rfl rfl) rfl (by decide) rfl (bB rfl yQ rfl rfl) ?_
 rintro _ _ ⟨g48,rfl,rfl⟩
 refine Y.sk .g1 ?_
 refine Y.es (aC rfl rfl) rfl (esW rfl (.t .z) (.t .g1) .z kH rfl rfl) ?_
 refine Y.sl rfl ?_
 refine Y.w ?_
 refine Y.af (by kernel_rfl) ?_
 exact Y.ao g48 trivial (.c .g8 (.c .g9 (.c .g10 (.c .g11 (.c .z .n))))) (fun _ h=>h.sel (.c .z (.c .z (.c .z (.c .z .n)))))
 refine Y.e (aC rfl rfl) rfl (by decide) rfl (bB rfl yQ rfl rfl) ?_
 rintro _ _ ⟨g49,rfl,rfl⟩
 refine Y.sk .g1 ?_
 refine Y.w ?_
 refine Y.sc [(6,false),(8,false)] (by kernel_rfl) ?_
 refine Y.call (aC rfl rfl) rfl (by decide) rfl (bE rfl Tryz.func9 rfl rfl (aS (.t .g6) (.t .g1))) .n (fun _ _ hs tr=>c_9 (aJ aa (tr.ctx ab) (tr.ctx ac)) _ (by first | assumption | omega | decide) (iS.tr tr hG)) ?_
 rintro _ _ ⟨rfl,rfl⟩
 refine Y.m .n ?_
 refine Y.sk .g1 ?_
 refine Y.es (aC rfl rfl) rfl (esW rfl (.t .g1) (.t .z) .z kH rfl rfl) ?_
 refine Y.sl rfl ?_
 refine Y.w ?_
 refine Y.af (by kernel_rfl) ?_
 exact Y.ao g49 trivial (.c .g8 (.c .g9 (.c .g10 (.c .g11 (.c .g1 .n))))) (fun _ h=>h.sel (.c .z (.c .z (.c .z (.c .z .n)))))
 rintro ao -
 refine Y.aw (γ:=Nat) (fun au=> [(5,.int .i64 (k:Int)),(4,.pointer (some ⟨g36,0,none⟩)),(3,.pointer (some ⟨g21,0,none⟩)),(6,.pointer (some ⟨am,0,none⟩)),(7,.pointer (some ⟨ao,0,none⟩)),(8,.pointer (some ⟨au,0,none⟩))]) (fun au=> [bV au 34 2 1 [.int .i64 ((oZ aa (qF aa ad).val (nV ad).text).code),.int .i64 ((oZ aa (qF aa ad).val (nV ad).text).val)],bV ao 34 2 1 [.int .i64 ((qF aa ad).code),.int .i64 ((qF aa ad).val)],bV am 34 2 1 [.int .i64 ((jR aa ad).code),.int .i64 ((jR aa ad).val)],bV g36 31 2 1 [.int .i64 ((gV aa).code),.slice (some an) ((gV aa).names).length al],bV g21 27 2 1 [.slice az aa.inodes.length a0,.slice a1 aa.data.length a2]]) (fun au=>True) ?_ ?_
 refine Y.dr .z 12 fR ?_
 refine Y.sc (qs 0 8) (by kernel_rfl) ?_
 refine Y.dk rfl rfl .z (qW rfl bX (.t .g2) .g3 bA) (Y.df rfl rfl .z .g5 uO (Y.dl rfl rfl .z bP .z .z (Y.df rfl rfl .z .g4 mP (Y.dl rfl rfl .z rF .z .g2 (Y.dm rfl rfl .z .g5 ?_)))))
 refine Y.dk rfl rfl .z (aB (j:=k) rfl eQ mU (.t .g1) (.t .z) rfl (by omega)) ?_
 refine Y.dk rfl rfl .z (aM rfl iH (.t .z) (WS.i ae af rfl)) (Y.w ?_)
 refine Y.ar (i:=8) (j:=11) (by kernel_rfl) ?_ ?_
 refine Y.call (aC rfl rfl) rfl (by decide) rfl (bE rfl Tryz.func11 rfl rfl (bG (.t .z))) .n (fun _ _ hs tr=>aM5 _ (by first | assumption | omega | decide) (iS.tr tr hG)) ?_
 rintro _ _ ⟨rfl,rfl,ck⟩
 refine Y.m .n ?_
 refine Y.sk .z ?_
 refine Y.w ?_
 refine Y.sc [(9,true)] (by kernel_rfl) ?_
 refine Y.dk rfl rfl .z (kK rfl (.t .z) (fun w=>aEg w (.int .i64 ((nV ad).code)) (.string ((nV ad).text)))) (Y.w ?_)
 refine Y.ar (i:=10) (j:=11) (by kernel_rfl) ?_ ?_
 refine Y.call (aC rfl rfl) rfl (by decide) rfl (bE rfl Tryz.func10 rfl rfl (eL (.t .g9) (.t .g7) (.t .z))) .n (fun _ _ hs tr=>aLv (aJ aa (tr.ctx ab) (tr.ctx ac)) _ _ (by first | assumption | omega | decide)) ?_
 rintro _ _ ⟨rfl,rfl⟩
 refine Y.m .n ?_
 refine Y.sk .z ?_
 refine Y.w ?_
 refine Y.sc [(11,false),(12,false)] (by kernel_rfl) ?_
 refine Y.e (aC rfl rfl) rfl (by decide) rfl (bB rfl yQ rfl rfl) ?_
 rintro _ _ ⟨g51,rfl,rfl⟩
 refine Y.sk .g1 ?_
 refine Y.es (aC rfl rfl) rfl (esW rfl (.t .z) (.t .g1) .z kH rfl rfl) ?_
 refine Y.sl rfl ?_
 refine Y.w ?_
 refine Y.af (by kernel_rfl) ?_
 exact Y.ao g51 trivial (.c .g12 (.c .g13 (.c .g14 (.c .g15 (.c .g16 (.c .z .n)))))) (fun _ h=>h.sel (.c .z (.c .z (.c .z (.c .z (.c .z .n))))))
 refine Y.e (aC rfl rfl) rfl (by decide) rfl (bB rfl yQ rfl rfl) ?_
 rintro _ _ ⟨g52,rfl,rfl⟩
 refine Y.sk .g1 ?_
 refine Y.w ?_
 refine Y.sc [(10,false),(12,false)] (by kernel_rfl) ?_
 refine Y.call (aC rfl rfl) rfl (by decide) rfl (bE rfl Tryz.func10 rfl rfl (eL (.t .g10) (.t .g8) (.t .g1))) .n (fun _ _ hs tr=>aLv (aJ aa (tr.ctx ab) (tr.ctx ac)) _ _ (by first | assumption | omega | decide)) ?_
 rintro _ _ ⟨rfl,rfl⟩
 refine Y.m .n ?_
 refine Y.sk .g1 ?_
 refine Y.es (aC rfl rfl) rfl (esW rfl (.t .g1) (.t .z) .z kH rfl rfl) ?_
 refine Y.sl rfl ?_
 refine Y.w ?_
 refine Y.af (by kernel_rfl) ?_
 exact Y.ao g52 trivial (.c .g12 (.c .g13 (.c .g14 (.c .g15 (.c .g16 (.c .g1 .n)))))) (fun _ h=>h.sel (.c .z (.c .z (.c .z (.c .z (.c .z .n))))))
 refine Y.e (aC rfl rfl) rfl (by decide) rfl (bB rfl yQ rfl rfl) ?_
 rintro _ _ ⟨g53,rfl,rfl⟩
 refine Y.sk .g1 ?_
 refine Y.w ?_
 refine Y.sc [(8,false),(9,true),(10,false),(12,false)] (by kernel_rfl) ?_
 refine Y.call (aC rfl rfl) rfl (by decide) rfl (bE rfl Tryz.func11 rfl rfl (bG (.t .g1))) .n (fun _ _ hs tr=>aM5 _ (by first | assumption | omega | decide) (iS.tr tr hG)) ?_
 rintro _ _ ⟨rfl,rfl,cm⟩
 refine Y.m .n ?_
 refine Y.sk .g1 ?_
 refine Y.dk rfl rfl .g1 (kK rfl (.t .z) (fun w=>aEg w (.int .i64 ((nV ad).code)) (.string ((nV ad).text)))) ?_
 refine Y.call (aC rfl rfl) rfl (by decide) rfl (bE rfl Tryz.func10 rfl rfl (eL (.t .g10) (.t .g8) (.t .z))) .n (fun _ _ hs tr=>aLv (aJ aa (tr.ctx ab) (tr.ctx ac)) _ _ (by first | assumption | omega | decide)) ?_
 rintro _ _ ⟨rfl,rfl⟩
 refine Y.m .n ?_
 refine Y.sk .g1 ?_
 refine Y.es (aC rfl rfl) rfl (esW rfl (.t .g3) (.t .z) .z kH rfl rfl) ?_
 refine Y.sl rfl ?_
 refine Y.w ?_
 refine Y.af (by kernel_rfl) ?_
 exact Y.ao g53 trivial (.c .g12 (.c .g13 (.c .g14 (.c .g15 (.c .g16 (.c .g3 .n)))))) (fun _ h=>h.sel (.c .z (.c .z (.c .z (.c .z (.c .z .n))))))
 rintro au -
 refine Y.aw (γ:=Nat) (fun a6=> [(5,.int .i64 (k:Int)),(4,.pointer (some ⟨g36,0,none⟩)),(3,.pointer (some ⟨g21,0,none⟩)),(6,.pointer (some ⟨am,0,none⟩)),(7,.pointer (some ⟨ao,0,none⟩)),(8,.pointer (some ⟨au,0,none⟩)),(9,.pointer (some ⟨a6,0,none⟩))]) (fun a6=> [bV a6 41 5 1 [.int .i64 ((gO aa ad).code),.int .i64 ((gO aa ad).inode),.int .i64 ((gO aa ad).kind),.int .i64 ((gO aa ad).links),.int .i64 ((gO aa ad).size)],bV au 34 2 1 [.int .i64 ((oZ aa (qF aa ad).val (nV ad).text).code),.int .i64 ((oZ aa (qF aa ad).val (nV ad).text).val)],bV ao 34 2 1 [.int .i64 ((qF aa ad).code),.int .i64 ((qF aa ad).val)],bV am 34 2 1 [.int .i64 ((jR aa ad).code),.int .i64 ((jR aa ad).val)],bV g36 31 2 1 [.int .i64 ((gV aa).code),.slice (some an) ((gV aa).names).length al],bV g21 27 2 1 [.slice az aa.inodes.length a0,.slice a1 aa.data.length a2]]) (fun a6=>True) ?_ ?_
 refine Y.dr .z 8 fR ?_
 refine Y.sc (qs 0 6) (by kernel_rfl) ?_
 refine Y.dk rfl rfl .z (qW rfl bX (.t .g2) .g4 bA) (Y.df rfl rfl .z .g2 mP (Y.dl rfl rfl .z rF .z .g3 (Y.dm rfl rfl .z .g3 ?_)))
 refine Y.dk rfl rfl .z (aB (j:=k) rfl eQ mU (.t .g1) (.t .z) rfl (by omega)) ?_
 refine Y.dk rfl rfl .z (aM rfl iH (.t .z) (WS.i ae af rfl)) (Y.w ?_)
 refine Y.ar (i:=6) (j:=7) (by kernel_rfl) ?_ ?_
 refine Y.call (aC rfl rfl) rfl (by decide) rfl (bE rfl Tryz.func12 rfl rfl (aS (.t .g5) (.t .z))) .n (fun _ _ hs tr=>aNe (aJ aa (tr.ctx ab) (tr.ctx ac)) _ (by first | assumption | omega | decide) (iS.tr tr hG)) ?_
 rintro _ _ ⟨rfl,rfl⟩
 refine Y.m .n ?_
 refine Y.sk .z ?_
 refine Y.w ?_
 refine Y.sc [(7,false),(8,false)] (by kernel_rfl) ?_
 refine Y.e (aC rfl rfl) rfl (by decide) rfl (bB rfl aGc rfl rfl) ?_
 rintro _ _ ⟨g55,rfl,rfl⟩
 refine Y.sk .g1 ?_
 refine Y.es (aC rfl rfl) rfl (esW rfl (.t .z) (.t .g1) .z kV rfl rfl) ?_
 refine Y.sl rfl ?_
 refine Y.w ?_
 refine Y.af (by kernel_rfl) ?_
 exact Y.ao g55 trivial (.c .g8 (.c .g9 (.c .g10 (.c .g11 (.c .g12 (.c .g13 (.c .z .n))))))) (fun _ h=>h.sel (.c .z (.c .z (.c .z (.c .z (.c .z (.c .z .n)))))))
 refine Y.e (aC rfl rfl) rfl (by decide) rfl (bB rfl aGc rfl rfl) ?_
 rintro _ _ ⟨g56,rfl,rfl⟩
 refine Y.sk .g1 ?_
 refine Y.w ?_
 refine Y.sc [(6,false),(8,false)] (by kernel_rfl) ?_
 refine Y.call (aC rfl rfl) rfl (by decide) rfl (bE rfl Tryz.func12 rfl rfl (aS (.t .g6) (.t .g1))) .n (fun _ _ hs tr=>aNe (aJ aa (tr.ctx ab) (tr.ctx ac)) _ (by first | assumption | omega | decide) (iS.tr tr hG)) ?_
 rintro _ _ ⟨rfl,rfl⟩
 refine Y.m .n ?_
 refine Y.sk .g1 ?_
 refine Y.es (aC rfl rfl) rfl (esW rfl (.t .g1) (.t .z) .z kV rfl rfl) ?_
 refine Y.sl rfl ?_
 refine Y.w ?_
 refine Y.af (by kernel_rfl) ?_
 exact Y.ao g56 trivial (.c .g8 (.c .g9 (.c .g10 (.c .g11 (.c .g12 (.c .g13 (.c .g1 .n))))))) (fun _ h=>h.sel (.c .z (.c .z (.c .z (.c .z (.c .z (.c .z .n)))))))
 rintro a6 -
 refine Y.seq ?_
 refine Y.dr .z 41 fR ?_
 refine Y.sc (qs 0 4) (by kernel_rfl) ?_
 refine Y.df rfl rfl .z .g3 aE1 (Y.dl rfl rfl .z bP .z .g3 (Y.dk rfl rfl .z (bW rfl (.t .z) .c) (Y.dm rfl rfl .z .z (Y.w ?_))))
 refine Y.an .z (fun g57=> ?_) (fun g57=> ?_)
 exfalso;first | contradiction | exact g57 rfl | exact absurd (A6 _ (by assumption)) g57 |(rw [A7] at g57;contradiction) | simp_all
 refine Y.sc (qs 4 5) (by kernel_rfl) ?_
 refine Y.aj rfl rfl rfl .z rfl (by decide) rfl .z (aN rfl (.t .g8) (fun _=>aE1 _ _)) ?_
 refine Y.aj rfl rfl rfl .g1 rfl (by decide) rfl .z (aM rfl bP (.t .z) (WS.g .g2 rfl)) ?_
 refine Y.aj rfl rfl rfl .g2 rfl (by decide) rfl .z (bW rfl (.t .z) .c) ?_
 refine Y.dk rfl rfl .z (bH rfl (.t .g3) (.t .z)) (Y.dm rfl rfl .z .z (Y.w ?_))
 refine Y.an .z (fun g58=> ?_) (fun g58=> ?_)
 exfalso;first | contradiction | exact g58 rfl | exact absurd (A6 _ (by assumption)) g58 |(rw [A7] at g58;contradiction) | simp_all
 refine Y.sc (qs 9 5) (by kernel_rfl) ?_
 refine Y.aj rfl rfl rfl .z rfl (by decide) rfl .z (qW rfl tS (.t .g14) .g1 kH) ?_
 refine Y.aj rfl rfl rfl .g1 rfl (by decide) rfl .z (qW rfl tS (.t .g13) .g3 kH) ?_
 refine Y.aj rfl rfl rfl .g2 rfl (by decide) rfl .z (aIu rfl (aF0 (oZ aa (qF aa ad).val (nV ad).text) (jR aa ad)) aGb (.t .g1) (.t .z)) ?_
 refine Y.dk rfl rfl .z (bH rfl (.t .g3) (.t .z)) (Y.dm rfl rfl .z .z (Y.w ?_))
 refine Y.an .z (fun g59=> ?_) (fun g59=> ?_)
 exfalso;first | contradiction | exact g59 rfl | exact absurd (A6 _ (by assumption)) g59 |(rw [A7] at g59;contradiction) | simp_all
 refine Y.sc (qs 14 7) (by kernel_rfl) ?_
 refine Y.aj rfl rfl rfl .z rfl (by decide) rfl .z (aN rfl (.t (.s16 .g4)) (fun _=>aJh _ _)) ?_
 refine Y.aj rfl rfl rfl .g1 rfl (by decide) rfl .z (aM rfl bP (.t .z) (WS.g .z rfl)) ?_
 refine Y.aj rfl rfl rfl .g2 rfl (by decide) rfl .z (aN rfl (.t (.s16 .g3)) (fun _=>uO _ _)) ?_
 refine Y.aj rfl rfl rfl .g3 rfl (by decide) rfl .z (aM rfl bP (.t .z) (WS.g .g3 rfl)) ?_
 refine Y.aj rfl rfl rfl .g4 rfl (by decide) rfl .z (bW rfl (.t .g2) (.t .z)) ?_
 refine Y.dk rfl rfl .z (bH rfl (.t .g5) (.t .z)) (Y.dm rfl rfl .z .z (Y.w ?_))
 refine Y.an .z (fun g60=> ?_) (fun g60=> ?_)
 exfalso;first | contradiction | exact g60 rfl | exact absurd (A6 _ (by assumption)) g60 |(rw [A7] at g60;contradiction) | simp_all
 refine Y.sc (qs 21 12) (by kernel_rfl) ?_
 refine Y.aj rfl rfl rfl .z rfl (by decide) rfl .z (aN rfl (.t (.s16 .g11)) (fun _=>aFd _ _)) ?_
 refine Y.aj rfl rfl rfl .g1 rfl (by decide) rfl .z (aM rfl bP (.t .z) (WS.g .z rfl)) ?_
 refine Y.aj rfl rfl rfl .g2 rfl (by decide) rfl .z (aN rfl (.t (.s16 .g9)) (fun _=>aP _ _)) ?_
 refine Y.aj rfl rfl rfl .g3 rfl (by decide) rfl .z (aM rfl bR (.t .z) (WS.g .g5 rfl)) ?_
 refine Y.aj rfl rfl rfl .g4 rfl (by decide) rfl .z (aN rfl (.t (.s16 .g12)) (fun _=>uO _ _)) ?_
 refine Y.aj rfl rfl rfl .g5 rfl (by decide) rfl .z (aM rfl bP (.t .z) (WS.g .g3 rfl)) ?_
 obtain⟨cn,av,aw⟩:=(aH2 ab) (by omega)
 subst av
 obtain⟨cv,bm⟩:=aK (xs:=aa.inodes) (j:=Int.toNat ((jR aa ad).val)) (by omega)
 obtain⟨b6,a7,a8,a9⟩:=aw.elem bm
 obtain⟨bn,bo,rfl,ax,ay⟩:=bY a7
 obtain⟨bp,bq,rfl,ba,bb,bc,bd⟩:=aD ax
 obtain⟨br,bs,rfl,be,bf,bg,bh⟩:=aD ay
 refine Y.aj rfl rfl rfl .g6 rfl (by decide) rfl .z (aB (j:=Int.toNat ((jR aa ad).val)) rfl cQ aT (.t .g2) (.t .z) (by omega) (by omega)) ?_
 refine Y.aj rfl rfl rfl .g7 rfl (by decide) rfl .z (aN rfl (.t .z) (fun _=>bS _ _)) ?_
 refine Y.aj rfl rfl rfl .g8 rfl (by decide) rfl .z (aM rfl bP (.t .z) (WS.el a8 a9 rfl)) ?_
 refine Y.aj rfl rfl rfl .g9 rfl (by decide) rfl .z (bW rfl (.t .g7) (.t .z)) ?_
 refine Y.dk rfl rfl .z (bH rfl (.t .g10) (.t .z)) (Y.dm rfl rfl .z .z (Y.w ?_))
 refine Y.an .z (fun g66=> ?_) (fun g66=> ?_)
 exfalso;first | contradiction | exact g66 rfl | exact absurd (A6 _ (by assumption)) g66 |(rw [A7] at g66;contradiction) | simp_all
 refine Y.sc (qs 33 5++ [(38,false),(39,true),(40,true)]) (by kernel_rfl) ?_
 refine Y.aj rfl rfl rfl .z rfl (by decide) rfl .z (qW rfl bX (.t (.s16 (.s16 .g3))) .g5 bA) ?_
 refine Y.aj rfl rfl rfl .g1 rfl (by decide) rfl .z (aN rfl (.t (.s16 (.s16 .g5))) (fun _=>uO _ _)) ?_
 refine Y.aj rfl rfl rfl .g2 rfl (by decide) rfl .z (aM rfl bP (.t .z) (WS.g .g3 rfl)) ?_
 refine Y.aj rfl rfl rfl .g3 rfl (by decide) rfl .z (aN rfl (.t (.s16 (.s16 .g8))) (fun _=>uO _ _)) ?_
 refine Y.aj rfl rfl rfl .g4 rfl (by decide) rfl .z (aM rfl bP (.t .z) (WS.g .g2 rfl)) ?_
 refine Y.call (zQ rfl rfl rfl .g5) rfl (by decide) rfl (bE rfl Tryz.func13 rfl rfl (eL (.t .g4) (.t .g2) (.t .z))) .n (fun _ _ hs tr=>aNt (aJ aa (tr.ctx ab) (tr.ctx ac)) _ _) ?_
 rintro _ _ ⟨rfl,rfl⟩
 refine Y.m .n ?_
 refine Y.sk .z ?_
 refine Y.aj rfl rfl rfl .g6 rfl (by decide) rfl .z (fF rfl (.t .z)) ?_
 refine Y.dk rfl rfl .z (bH rfl (.t .g7) (.t .z)) (Y.w ?_)
 refine Y.af (by kernel_rfl) ?_
 refine Y.g ?_
 refine Y.cond (.t .z) (fun co=> ?_) (fun co=> ?_)
 refine Y.seq (Y.region (Y.ql rfl (aA rfl .c) (Y.nt (Y.ret (Y.v (Y.j (Y.j ?_)))))))
 refine Y.v (Y.j ?_)
 refine Y.ay (fun l w h=>ag _ _ (ah _ _ (ai _ _ (h)))) ?_
 refine Y.i (aU rfl .z) .n ?_
 first |(focus(exact⟨congrArg Value.bool (decide_eq_true K3),rfl⟩)) |(focus(contradiction)) | exact⟨rfl,rfl⟩ |(focus(exfalso;omega)) |(focus(exfalso;simp_all;done)) |(focus(refine⟨congrArg Value.bool ?_,rfl⟩;simp_all;done)) |(focus(refine⟨congrArg Value.bool ?_,rfl⟩;simp_all;omega))
 refine Y.skip (Y.ab (Y.g (Y.region (Y.mv rfl (.s16 (.s16 .g9)) ?_))))
 refine Y.ql rfl (bN (c:=((k+1:Nat):Int)) rfl (.t .z) .c (wr (by omega) (by omega) (by omega))) ?_
 refine Y.er (.s16 (.s16 .g11)) (Y.as rfl .z (Y.nil ?_))
 refine Y.ae (k+1) (by omega) (by first | omega |(dsimp only;omega)) (.c .z (.c (.s16 (.s16 .g12)) (.c (.s16 (.s16 .g13)) .n))) (fun _ h=>h.sel (.c .g4 (.c .g4 .n)))
 refine Y.exit (Y.y (Y.y (Y.ag (Y.g (Y.seq ?_)))))
 refine Y.dr .z 14 fR ?_
 refine Y.sc (qs 0 4++ [(4,false)]++qs 5 4) (by kernel_rfl) ?_
 refine Y.df rfl rfl .z .g6 mP (Y.dl rfl rfl .z rF .z .z (Y.dk rfl rfl .z (bD rfl eQ (.t .z)) (Y.dk rfl rfl .z (qW rfl bX (.t .g10) .g1 bA) ?_)))
 refine Y.call (aC rfl rfl) rfl (by decide) rfl (bE rfl Tryz.func7 rfl rfl (bG (.t .z))) .n (fun _ _ hs tr=>c_7 (aJ aa (tr.ctx ab) (tr.ctx ac))) ?_
 rintro _ _ ⟨cw,rfl,rfl⟩
 refine Y.m (.c .n) ?_
 refine Y.h (WS.a .z) ?_
 rintro⟨bt,bu,rfl,b7,b8,b9⟩
 refine Y.sk .g1 ?_
 refine Y.dk rfl rfl .g1 (kK rfl (.t .z) (fun w=>aI4 w (.int .i64 ((gV aa).code)) (.slice bt ((gV aa).names).length bu))) (Y.dk rfl rfl .g1 (bD rfl eQ (.t .z)) (Y.dk rfl rfl .g1 (bU rfl (.t .g4) (.t .z)) (Y.dm rfl rfl .g1 .z (Y.w ?_))))
 refine Y.al .z (fun g71=> ?_) (fun g71=> ?_)
 refine Y.sc ([(9,true),(10,false)]++qs 11 3++ [(14,false)]) (by kernel_rfl) ?_
 refine Y.aj rfl rfl rfl .z rfl (by decide) rfl .g1 (qW rfl bX (.t .g16) .g1 bA) ?_
 refine Y.call (zQ rfl rfl rfl .g1) rfl (by decide) rfl (bE rfl Tryz.func8 rfl rfl (aS (.t .z) .c)) .n (fun _ _ hs tr=>c_8 (aJ aa (tr.ctx ab) (tr.ctx ac)) _ (by first | assumption | omega | decide) (iS.tr tr hG)) ?_
 rintro _ _ ⟨rfl,rfl⟩
 refine Y.m .n ?_
 refine Y.sk .g1 ?_
 refine Y.aj rfl rfl rfl .g2 rfl (by decide) rfl .g1 (kK rfl (.t .z) (fun w=>aJp w (.int .i64 ((jR aa (⟨#[47]⟩)).code)) (.int .i64 ((jR aa (⟨#[47]⟩)).val)))) ?_
 refine Y.aj rfl rfl rfl .g3 rfl (by decide) rfl .g1 (bU rfl (.t .z) .c) ?_
 refine Y.dk rfl rfl .g1 (bI rfl (.t .g4) (.t .z)) ?_
 refine Y.q (aC rfl rfl) rfl (by decide) rfl (aA rfl (.t .z)) ?_
 refine Y.sl rfl ?_
 refine Y.w ?_
 refine Y.af (by kernel_rfl) ?_
 refine Y.g (Y.ret ?_)
 refine Y.ay (fun l w h=>ag _ _ (ah _ _ (ai _ _ (h)))) ?_
 refine Y.i (aU rfl .z) .n ?_
 first |(focus(exact⟨congrArg Value.bool (decide_eq_true K3),rfl⟩)) |(focus(contradiction)) | exact⟨rfl,rfl⟩ |(focus(exfalso;omega)) |(focus(exfalso;simp_all;done)) |(focus(refine⟨congrArg Value.bool ?_,rfl⟩;simp_all;done)) |(focus(refine⟨congrArg Value.bool ?_,rfl⟩;simp_all;omega))
 exfalso;first | contradiction | exact g71 rfl | exact absurd (A6 _ (by assumption)) g71 |(rw [A7] at g71;contradiction) | simp_all

end Go.Proofs.YtmejbfmhaoilmaaGreatDoor

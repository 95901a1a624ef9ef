/- What is proved: contracts of functions, one a function. No condition. -/
import Derived.Test.YtmejbfmhaoilmaaGreatBase1
import Derived.Test.YtmejbfmhaoilmaaGreatW88
import Derived.Test.YtmejbfmhaoilmaaGreatW89
import Derived.Test.YtmejbfmhaoilmaaGreatW57
import Derived.Test.YtmejbfmhaoilmaaGreatW41
import Derived.Test.YtmejbfmhaoilmaaGreatW43
import Derived.Test.YtmejbfmhaoilmaaGreatW32
import Derived.Test.YtmejbfmhaoilmaaGreatW6
import Derived.Test.YtmejbfmhaoilmaaGreatW30
import Derived.Test.YtmejbfmhaoilmaaGreatTypesA
import Derived.Test.YtmejbfmhaoilmaaGreatBase2
namespace Go.Proofs.YtmejbfmhaoilmaaGreat
open Go Go.RowKit
set_option linter.unusedVariables false
set_option linter.unusedSimpArgs false
set_option maxHeartbeats 1000000
set_option maxRecDepth 20000
theorem c_6 {w0:World}{S0:Bs}{cd:(List UInt8)}{v0:Value} (h0:bX.ro w0 (FF w0 S0) cd [v0]):
    Calls Tryz.prog 6 #[v0] w0 (aI w0 S0 (fun r l=>r= .bool true∧l= [])):=by
 obtain⟨A0,c0,rfl,gi,gj,gk,gl⟩:=aD h0
 refine Y.enter (N:=140) Tryz.func6 rfl rfl (by simp) [(0,.slice A0 cd.length c0)] (by simp) (l0:= []) trivial ?_
 refine Y.seq (Y.region (Y.ql rfl (aA rfl .c) (Y.nt (Y.seq (Y.seq (Y.region (Y.mv rfl .g1 ?_)))))))
 refine Y.cl rfl rfl Tryz.func8 rfl rfl (bH (.t .z)) .n (fun _ _ hs tr=>c_8 (tr.ctx h0)) ?_
 rintro _ _ ⟨rfl,rfl⟩
 refine Y.r .n ?_
 refine Y.nt ?_
 refine Y.u (.t .z) (fun b2=> ?_) (fun b2=> ?_)
 refine Y.seq (Y.region (Y.er .g2 (Y.ql rfl (aA rfl .c) (Y.nt (Y.ret (Y.m ?_))))))
 refine Y.j (aT rfl .z) .n ?_
 exact⟨rfl,rfl⟩
 refine Y.skip (Y.g (Y.seq (Y.region (Y.mv rfl .g3 ?_))))
 refine Y.cl rfl rfl Tryz.func26 rfl rfl (bH (.t .z)) .n (fun _ _ hs tr=>aNn (tr.ctx h0) (by omega)) ?_
 rintro _ _ ⟨an,v4,v6,m8,m9,ab,e8,e9,fb,rfl,rfl⟩
 refine Y.r (.c (.c (.c .n))) ?_
 refine Y.i (WS.u .z) ?_
 rintro⟨d3,b3,rfl,fc,fd,fe⟩
 refine Y.i (WS.u .g1) ?_
 rintro⟨b4,b5,rfl,ff,fg,fh⟩
 refine Y.a2 .z ?_
 intro w0 S0 b6 aa ac
 replace h0:=b6 h0
 refine Y.a2 .z ?_
 intro w0 S0 bj ah ad
 replace aa:=bj aa
 replace h0:=bj h0
 refine Y.ax .z ?_
 intro w0 S0 a1 ak ae
 replace aa:=a1 aa
 replace ah:=a1 ah
 replace h0:=a1 h0
 refine Y.mv rfl .z (Y.ql rfl (bL (v:= .agg #[.slice d3 an.inodes.length b3,.slice b4 an.data.length b5]) rfl (.t .z) rfl) (Y.ql rfl (bL (v:= .int .i64 m8) rfl (.t .g1) rfl) (Y.ql rfl (bL (v:= .int .i64 m9) rfl (.t .g2) rfl) (Y.ql rfl (bL (v:= .slice e8 ab.length e9) rfl (.t .g3) rfl) ?_))))
 refine Y.el rfl (bD rfl mQ rfl rfl) ?_
 rintro _ _ ⟨g34,rfl,rfl⟩
 refine Y.es (aE rfl) rfl (esW rfl (.t .z) (.t .g4) .z aX rfl rfl) ?_
 refine Y.as rfl .g3 (Y.as rfl .g3 (Y.as rfl .g3 (Y.nt (Y.seq (Y.region (Y.ql rfl (qW rfl bN (.t .g3) .z aX) (Y.mv rfl .g3 ?_)))))))
 refine Y.mv rfl .g3 (Y.mv rfl .g3 ?_)
 refine Y.cl rfl rfl Tryz.func27 rfl rfl (nO (.t .g3) (.t .g2) (.t .g1) (.t .z)) .n (fun _ _ hs tr=>aNg (aM an (tr.ctx aa) (tr.ctx ah)) _ _ (tr.ctx ak)) ?_
 rintro _ _ ⟨gm,gn,rfl,rfl⟩
 refine Y.r (.c (.c .n)) ?_
 refine Y.i (WS.a .z) ?_
 rintro⟨f8,a5,rfl,fi,fj,fk⟩
 refine Y.i (WS.a .g1) ?_
 rintro⟨a6,a7,rfl,fl,fm,fn⟩
 refine Y.ax .z ?_
 intro w0 S0 a0 al af
 replace ak:=a0 ak
 replace aa:=a0 aa
 replace ah:=a0 ah
 replace h0:=a0 h0
 refine Y.ax .z ?_
 intro w0 S0 au aq ag
 replace al:=au al
 replace ak:=au ak
 replace aa:=au aa
 replace ah:=au ah
 replace h0:=au h0
 refine Y.el rfl (bD rfl vZ rfl rfl) ?_
 rintro _ _ ⟨g82,rfl,rfl⟩
 refine Y.es (aE rfl) rfl (esW rfl (.t .z) (.t .g1) .z fH rfl rfl) ?_
 refine Y.nt (Y.seq (Y.seq (Y.region (Y.fa rfl .z oL (Y.ld rfl bR .z .z (Y.ql rfl (cC rfl (.t .z) .c) (Y.nil ?_)))))))
 refine Y.g ?_
 refine Y.ad (.t .z) (fun fo=> ?_) (fun fo=> ?_)
 refine Y.seq ?_
 refine Y.dr .z 9 gB ?_
 refine Y.sc (qs 0 4++ [(6,true),(7,true),(4,false),(5,true),(8,true),(9,false)]) (by kernel_rfl) ?_
 refine Y.dk rfl rfl .z (qW rfl bN (.t .g12) .g1 aX) (Y.dm rfl rfl .z .g12 (Y.dm rfl rfl .z .g12 (Y.dm rfl rfl .z .g12 (Y.df rfl rfl .z .g7 oL (Y.dl rfl rfl .z bR .z .z ?_)))))
 refine Y.call (aC rfl rfl) rfl (by decide) rfl (bF rfl Tryz.func28 rfl rfl (nO (.t .g5) (.t .g4) (.t .g3) (.t .g2))) .n (fun _ _ hs tr=>aMi (aM an (tr.ctx aa) (tr.ctx ah)) _ _ (tr.ctx ak)) ?_
 rintro _ _ ⟨go,gp,rfl,rfl⟩
 refine Y.r (.c (.c .n)) ?_
 refine Y.i (WS.a .z) ?_
 rintro⟨d4,d5,rfl,fp,fq,fr⟩
 refine Y.i (WS.a .g1) ?_
 rintro⟨d6,d7,rfl,ft,fu,fv⟩
 refine Y.sk .g2 ?_
 refine Y.dk rfl rfl .g2 (nK rfl (.t .z) (fun w=>aHx w (.int .i64 ((gW an m8 m9 ab).code)) (.slice d4 ((gW an m8 m9 ab).fs.inodes).length d5) (.slice d6 ((gW an m8 m9 ab).fs.data).length d7))) (Y.dk rfl rfl .g2 (bP rfl (.t .z) (.t .g2)) (Y.er (.s16 .g15) ?_))
 refine Y.q (aC rfl rfl) rfl (by decide) rfl (aA rfl (.t .z)) ?_
 refine Y.sl rfl ?_
 refine Y.aa ?_
 refine Y.ai (by kernel_rfl) ?_
 refine Y.g (Y.ret (Y.m ?_))
 refine Y.aw (fun l w h=>ac _ _ (ad _ _ (ae _ _ (af _ _ (ag _ _ (h)))))) ?_
 refine Y.j (aT rfl .z) .n ?_
 first |(focus(contradiction)) | exact⟨rfl,rfl⟩ |(focus(exfalso;omega)) |(focus(exfalso;simp_all;done)) |(focus(refine⟨congrArg Value.bool ?_,rfl⟩;simp_all;done)) |(focus(refine⟨congrArg Value.bool ?_,rfl⟩;simp_all;omega))
 obtain⟨B1,B2,B3,B4,B5,B6,B7,B8,B9,Ba,Bb⟩:=aG6 fo
 refine Y.skip (Y.g (Y.seq (Y.region (Y.fa rfl .g12 aP (Y.ld rfl bO .z .g1 (Y.mv rfl .g13 ?_))))))
 obtain⟨d8,bk,bm⟩:=(yO aa) (by omega)
 subst bk
 obtain⟨f9,aw⟩:=aJ (xs:=an.inodes) (j:=Int.toNat m8) (by omega)
 obtain⟨fw,b7,b8,b9⟩:=bm.elem aw
 obtain⟨d9,ea,rfl,ap,bn⟩:=bV b7
 obtain⟨bo,bp,rfl,c2,c3,c4,c5⟩:=aD ap
 obtain⟨eb,ec,rfl,c6,c7,c8,c9⟩:=aD bn
 refine Y.ql rfl (aB (j:=Int.toNat m8) rfl cI aU (.t .g1) (.t .z) (by omega) (by omega)) ?_
 refine Y.fa rfl .z cS (Y.le rfl eP .z b8 b9 (Y.as rfl .z (Y.nt (Y.seq (Y.region (Y.fa rfl .g10 lY (Y.ql rfl (mA (k:=1) rfl (.t .z) (fun _=>aP _ _) rfl) ?_)))))))
 refine Y.ld rfl bO .z .z (Y.mv rfl (.s16 .g5) ?_)
 obtain⟨a8,bq,ax⟩:=(yO al) (by omega)
 subst bq
 obtain⟨da,ay⟩:=aJ (xs:=(gW an m8 m9 ab).fs.inodes) (j:=Int.toNat m8) (by omega)
 obtain⟨fx,ca,cb,cc⟩:=ax.elem ay
 obtain⟨ed,ee,rfl,ar,br⟩:=bV ca
 obtain⟨bs,bt,rfl,db,dc,dd,a9⟩:=aD ar
 obtain⟨ef,eg,rfl,dg,dh,di,dj⟩:=aD br
 refine Y.ql rfl (aB (j:=Int.toNat m8) rfl cI aU (.t .g1) (.t .z) (by omega) (by omega)) ?_
 refine Y.fa rfl .z cS (Y.le rfl eP .z cb cc (Y.as rfl .z (Y.nt (Y.seq (Y.seq (Y.region (Y.ql rfl (aA rfl .c) ?_)))))))
 refine Y.nt (Y.block ?_)
 refine Y.ah (γ:=Nat) (fun k=> [(10,.int .i64 (k:Int)),(9,.slice bs da.blocks.length bt),(8,.slice bo f9.blocks.length bp),(7,.pointer (some ⟨g82,0,none⟩)),(6,.slice e8 ab.length e9),(5,.int .i64 m9),(4,.int .i64 m8),(3,.pointer (some ⟨g34,0,none⟩))]) (fun k=> [bZ g82 48 3 1 [.int .i64 ((gW an m8 m9 ab).code),.slice (some a8) ((gW an m8 m9 ab).fs.inodes).length a5,.slice a6 ((gW an m8 m9 ab).fs.data).length a7],bZ g34 27 2 1 [.slice (some d8) an.inodes.length b3,.slice b4 an.data.length b5]]) (fun k=>k≤da.blocks.length) (fun k=>da.blocks.length - k) 0 (Nat.zero_le _) (.c .z (.c .g1 (.c .g9 (.c (.s16 .g3) (.c (.s16 .g9) (.c (.s16 .g10) (.c (.s16 .g11) (.c (.s16 .g12) .n)))))))) (fun _ h=>h.sel (.c .z (.c .z .n))) ?_
 rintro k hk
 refine Y.seq (Y.seq (Y.region (Y.mv rfl .z (Y.mv rfl .g2 (Y.ql rfl (bE rfl dN (.t .z)) (Y.ql rfl (cU rfl (.t .g2) (.t .z)) (Y.nt ?_)))))))
 refine Y.u (.t .z) (fun eh=> ?_) (fun eh=> ?_)
 refine Y.skip (Y.g (Y.seq (Y.block (Y.seq (Y.region (Y.mv rfl .g8 (Y.mv rfl .g6 (Y.mv rfl .g6 ?_))))))))
 obtain⟨fy,ba,bb⟩:=a9 (by omega)
 subst ba
 obtain⟨ga,av⟩:=aJ (xs:=da.blocks) (j:=k) (by omega)
 obtain⟨ei,bu,a2,a3⟩:=bb.elem av
 obtain⟨rfl,fz⟩:=bu
 refine Y.ql rfl (aB (j:=k) rfl dN hP (.t .g1) (.t .z) rfl (by omega)) ?_
 refine Y.ql rfl (aN rfl bR (.t .z) (WS.i a2 a3 rfl)) ?_
 refine Y.cl rfl rfl Tryz.func18 rfl rfl (aR (.t .g4) (.t .z)) .n (fun _ _ hs tr=>aLw (tr.ctx ak) _) ?_
 rintro _ _ ⟨rfl,rfl⟩
 refine Y.r .n ?_
 refine Y.mv rfl .z ?_
 refine Y.ak .z (fun g104=> ?_) (fun g104=> ?_)
 refine Y.h rfl rfl .z rfl rfl (by decide) rfl ?_
 refine Y.h rfl rfl .g1 rfl rfl (by decide) rfl ?_
 refine Y.h rfl rfl .g2 rfl rfl (by decide) rfl ?_
 refine Y.h rfl rfl .g3 rfl rfl (by decide) rfl ?_
 refine Y.h rfl rfl .g4 rfl rfl (by decide) rfl ?_
 refine Y.h rfl rfl .g5 rfl rfl (by decide) rfl ?_
 refine Y.ql rfl (bB rfl (.t .g6) .c) (Y.nt ?_)
 refine Y.ap (.t .z) ?_
 refine Y.seq (Y.region (Y.ql rfl (aA rfl .c) (Y.nt (Y.ret (Y.v (Y.m (Y.m ?_)))))))
 refine Y.v (Y.m ?_)
 refine Y.aw (fun l w h=>ac _ _ (ad _ _ (ae _ _ (af _ _ (ag _ _ (h)))))) ?_
 refine Y.j (aT rfl .z) .n ?_
 first |(focus(contradiction)) |(focus(exact absurd (B3 _ _ aw ay).1 (by assumption))) |(focus(exact absurd (by assumption) ((B3 _ _ aw ay).2 _ _ av).1)) |(focus(exact absurd (by assumption) ((B3 _ _ aw ay).2 _ _ av).2)) | exact⟨rfl,rfl⟩ |(focus(exfalso;omega)) |(focus(exfalso;simp_all;done)) |(focus(refine⟨congrArg Value.bool ?_,rfl⟩;simp_all;done)) |(focus(refine⟨congrArg Value.bool ?_,rfl⟩;simp_all;omega))
 refine Y.qg rfl rfl .z rfl rfl rfl (aS rfl (.t .g13)) ?_
 refine Y.qg rfl rfl .g1 rfl rfl rfl (aS rfl (.t .g13)) ?_
 refine Y.qg rfl rfl .g2 rfl rfl rfl (aS rfl (.t .g13)) ?_
 refine Y.qg rfl rfl .g3 rfl rfl rfl (aB (j:=k) rfl dN hP (.t .g1) (.t .z) rfl (by omega)) ?_
 refine Y.qg rfl rfl .g4 rfl rfl rfl (aN rfl bR (.t .z) (WS.i a2 a3 rfl)) ?_
 refine Y.call (dX rfl rfl .g5) rfl (by decide) rfl (bF rfl Tryz.func18 rfl rfl (aR (.t .g4) (.t .z))) .n (fun _ _ hs tr=>aLw (tr.ctx ap) _) ?_
 rintro _ _ ⟨rfl,rfl⟩
 refine Y.r .n ?_
 refine Y.ql rfl (aV rfl (.t .g6) (.t .z)) (Y.nt ?_)
 refine Y.u (.t .z) (fun ej=> ?_) (fun ej=> ?_)
 refine Y.seq (Y.region (Y.ql rfl (aA rfl .c) (Y.nt (Y.ret (Y.v (Y.m (Y.m ?_)))))))
 refine Y.v (Y.m ?_)
 refine Y.aw (fun l w h=>ac _ _ (ad _ _ (ae _ _ (af _ _ (ag _ _ (h)))))) ?_
 refine Y.j (aT rfl .z) .n ?_
 first |(focus(contradiction)) |(focus(exact absurd (B3 _ _ aw ay).1 (by assumption))) |(focus(exact absurd (by assumption) ((B3 _ _ aw ay).2 _ _ av).1)) |(focus(exact absurd (by assumption) ((B3 _ _ aw ay).2 _ _ av).2)) | exact⟨rfl,rfl⟩ |(focus(exfalso;omega)) |(focus(exfalso;simp_all;done)) |(focus(refine⟨congrArg Value.bool ?_,rfl⟩;simp_all;done)) |(focus(refine⟨congrArg Value.bool ?_,rfl⟩;simp_all;omega))
 refine Y.skip (Y.y (Y.g (Y.region (Y.mv rfl (.s16 .g2) ?_))))
 refine Y.ql rfl (bG (c:=((k+1:Nat):Int)) rfl (.t .z) .c (wr (by omega) (by omega) (by omega))) ?_
 refine Y.er (.s16 .g4) (Y.as rfl .z (Y.nil ?_))
 refine Y.ae (k+1) (by omega) (by first | omega |(dsimp only;omega)) (.c .z (.c (.s16 .g5) (.c (.s16 .g6) (.c (.s16 .g7) (.c (.s16 .g8) (.c (.s16 .g9) (.c (.s16 .g10) (.c (.s16 .g11) .n)))))))) (fun _ h=>h.sel (.c .z (.c .z .n)))
 refine Y.exit (Y.w (Y.w (Y.ag (Y.g (Y.seq (Y.region (Y.fa rfl .g7 lY (Y.ql rfl (nF (cs:= [.slice (some a8) ((gW an m8 m9 ab).fs.inodes).length a5,.slice a6 ((gW an m8 m9 ab).fs.data).length a7]) rfl bN aX (.t .z) (WS.r .z (uE rfl))) ?_))))))))
 refine Y.mv rfl .g12 ?_
 refine Y.cl rfl rfl Tryz.func13 rfl rfl (aR (.t .g1) (.t .z)) .n (fun _ _ hs tr=>aM9 (aM ((gW an m8 m9 ab).fs) (tr.ctx al) (tr.ctx aq)) _) ?_
 rintro _ _ ⟨gb,rfl,rfl⟩
 refine Y.r (.c .n) ?_
 refine Y.i (WS.a .z) ?_
 rintro⟨f0,f1,rfl,ek,em,en⟩
 refine Y.el rfl (bD rfl aFd rfl rfl) ?_
 rintro _ _ ⟨g109,rfl,rfl⟩
 refine Y.es (aE rfl) rfl (esW rfl (.t .z) (.t .g1) .z iX rfl rfl) ?_
 refine Y.nt (Y.seq (Y.region (Y.ql rfl (qW rfl bN (.t .g16) .g3 aX) (Y.mv rfl .g16 (Y.fa rfl .g2 sB (Y.ld rfl lR .z .z (Y.mv rfl (.s16 .g1) ?_)))))))
 refine Y.cl rfl rfl Tryz.func29 rfl rfl (nO (.t .g4) (.t .g3) (.t .g1) (.t .z)) .n (fun _ _ hs tr=>aNc (aM an (tr.ctx aa) (tr.ctx ah)) _ (tr.own .g1) (tr.ctx ak)) ?_
 rintro _ _ ⟨gc,gd,rfl,rfl⟩
 refine Y.r (.c (.c .n)) ?_
 refine Y.i (WS.a .z) ?_
 rintro⟨ce,cf,rfl,eo,ep,et⟩
 refine Y.i (WS.a .g1) ?_
 rintro⟨cg,ch,rfl,eu,ev,ew⟩
 refine Y.el rfl (bD rfl vZ rfl rfl) ?_
 rintro _ _ ⟨g116,rfl,rfl⟩
 refine Y.es (aE rfl) rfl (esW rfl (.t .z) (.t .g1) .z fH rfl rfl) ?_
 refine Y.nt (Y.seq (Y.region (Y.ql rfl (qW rfl bN (.t (.s16 .g7)) .g6 aX) (Y.mv rfl (.s16 .g7) ?_))))
 refine Y.cl rfl rfl Tryz.func30 rfl rfl (aR (.t .g1) (.t .z)) .n (fun _ _ hs tr=>aNj (aM an (tr.ctx aa) (tr.ctx ah)) _) ?_
 rintro _ _ ⟨ge,gf,rfl,rfl⟩
 refine Y.r (.c (.c .n)) ?_
 refine Y.i (WS.a .z) ?_
 rintro⟨f2,f3,rfl,ey,ez,e0⟩
 refine Y.i (WS.a .g1) ?_
 rintro⟨f4,f5,rfl,e1,e2,e3⟩
 refine Y.ax .z ?_
 intro w0 S0 ao az ai
 replace aa:=ao aa
 replace ah:=ao ah
 replace ak:=ao ak
 replace al:=ao al
 replace aq:=ao aq
 replace ar:=ao ar
 replace ap:=ao ap
 refine Y.ax .z ?_
 intro w0 S0 am e4 aj
 replace az:=am az
 replace aa:=am aa
 replace ah:=am ah
 replace ak:=am ak
 replace al:=am al
 replace aq:=am aq
 replace ar:=am ar
 replace ap:=am ap
 refine Y.el rfl (bD rfl vZ rfl rfl) ?_
 rintro _ _ ⟨g158,rfl,rfl⟩
 refine Y.es (aE rfl) rfl (esW rfl (.t .z) (.t .g1) .z fH rfl rfl) ?_
 refine Y.nt (Y.seq (Y.region (Y.fa rfl .g11 vP (Y.ld rfl bR .z .g4 (Y.ql rfl (bP rfl (.t .z) .c) (Y.mv rfl .z ?_))))))
 refine Y.ak .z (fun g159=> ?_) (fun g159=> ?_)
 refine Y.qg rfl rfl .z rfl rfl rfl (aL rfl (.t .g15) (fun _=>sB _ _)) ?_
 refine Y.qg rfl rfl .g1 rfl rfl rfl (aN rfl lR (.t .z) (WS.g .g4 rfl)) ?_
 refine Y.qg rfl rfl .g2 rfl rfl rfl (bE rfl fO (.t .z)) ?_
 refine Y.qg rfl rfl .g3 rfl rfl rfl (aS rfl (.t (.s16 .g16))) ?_
 refine Y.qg rfl rfl .g4 rfl rfl rfl (bP rfl (.t .g1) (.t .z)) ?_
 refine Y.ql rfl (bB rfl (.t .g5) (.t .z)) (Y.mv rfl .z ?_)
 refine Y.ak .z (fun g160=> ?_) (fun g160=> ?_)
 refine Y.qg rfl rfl .z rfl rfl rfl (aL rfl (.t (.s16 (.s16 .g2))) (fun _=>lY _ _)) ?_
 refine Y.qg rfl rfl .g1 rfl rfl rfl (mA (k:=1) rfl (.t .z) (fun _=>aP _ _) rfl) ?_
 refine Y.qg rfl rfl .g2 rfl rfl rfl (aN rfl bO (.t .z) (WS.g .g6 rfl)) ?_
 refine Y.qg rfl rfl .g3 rfl rfl rfl (aS rfl (.t (.s16 (.s16 .g8)))) ?_
 obtain⟨f6,bc,ax⟩:=(yO al) (by omega)
 obtain rfl:=Option.some.inj bc
 obtain⟨gg,ci⟩:=aJ (xs:=(gW an m8 m9 ab).fs.inodes) (j:=Int.toNat m8) (by omega)
 obtain⟨e5,bv,bw,bx⟩:=ax.elem ci
 obtain⟨dp,ds,rfl,bd,be⟩:=bV bv
 obtain⟨dt,du,rfl,cj,ck,cm,cn⟩:=aD bd
 obtain⟨dv,dw,rfl,co,cp,cq,cr⟩:=aD be
 refine Y.qg rfl rfl .g4 rfl rfl rfl (aB (j:=Int.toNat m8) rfl cI aU (.t .g1) (.t .z) (by omega) (by omega)) ?_
 refine Y.qg rfl rfl .g5 rfl rfl rfl (aL rfl (.t .z) (fun _=>gH _ _)) ?_
 refine Y.qg rfl rfl .g6 rfl rfl rfl (aN rfl bR (.t .z) (WS.el bw bx rfl)) ?_
 refine Y.qg rfl rfl .g7 rfl rfl rfl (aS rfl (.t (.s16 (.s16 .g11)))) ?_
 refine Y.qg rfl rfl .g8 rfl rfl rfl (bP rfl (.t .g1) (.t .z)) ?_
 refine Y.ql rfl (bB rfl (.t .g9) (.t .z)) (Y.mv rfl .z ?_)
 refine Y.ak .z (fun g166=> ?_) (fun g166=> ?_)
 refine Y.qg rfl rfl .z rfl rfl rfl (aL rfl (.t (.s16 (.s16 .g13))) (fun _=>lY _ _)) ?_
 refine Y.qg rfl rfl .g1 rfl rfl rfl (nF (cs:= [.slice (some a8) ((gW an m8 m9 ab).fs.inodes).length a5,.slice a6 ((gW an m8 m9 ab).fs.data).length a7]) rfl bN aX (.t .z) (WS.r .g6 (uE rfl))) ?_
 refine Y.call (dX rfl rfl .g2) rfl (by decide) rfl (bF rfl Tryz.func17 rfl rfl (bH (.t .z))) .n (fun _ _ hs tr=>aM6 (aM ((gW an m8 m9 ab).fs) (tr.ctx al) (tr.ctx aq))) ?_
 rintro _ _ ⟨rfl,rfl⟩
 refine Y.r .n ?_
 refine Y.qg rfl rfl .g3 rfl rfl rfl (bP rfl (.t .z) .c) ?_
 refine Y.ql rfl (bB rfl (.t .g4) (.t .z)) (Y.mv rfl .z ?_)
 refine Y.ak .z (fun g167=> ?_) (fun g167=> ?_)
 refine Y.qg rfl rfl .z rfl rfl rfl (aL rfl (.t (.s16 .g16)) (fun _=>oL _ _)) ?_
 refine Y.qg rfl rfl .g1 rfl rfl rfl (aN rfl bR (.t .z) (WS.g .g1 rfl)) ?_
 refine Y.qg rfl rfl .g2 rfl rfl rfl (bP rfl (.t .z) .c) ?_
 refine Y.ql rfl (bB rfl (.t .g3) (.t .z)) (Y.mv rfl .z ?_)
 refine Y.ak .z (fun g168=> ?_) (fun g168=> ?_)
 refine Y.qg rfl rfl .z rfl rfl rfl (aL rfl (.t (.s16 (.s16 .g5))) (fun _=>lY _ _)) ?_
 refine Y.qg rfl rfl .g1 rfl rfl rfl (nF (cs:= [.slice ce ((zU an m8 ((gQ ((gW an m8 m9 ab).fs) m8).bytes) ab).fs.inodes).length cf,.slice cg ((zU an m8 ((gQ ((gW an m8 m9 ab).fs) m8).bytes) ab).fs.data).length ch]) rfl bN aX (.t .z) (WS.r .g1 (uE rfl))) ?_
 refine Y.qg rfl rfl .g2 rfl rfl rfl (aL rfl (.t (.s16 (.s16 (.s16 .g10)))) (fun _=>lY _ _)) ?_
 refine Y.qg rfl rfl .g3 rfl rfl rfl (nF (cs:= [.slice (some a8) ((gW an m8 m9 ab).fs.inodes).length a5,.slice a6 ((gW an m8 m9 ab).fs.data).length a7]) rfl bN aX (.t .z) (WS.r .g6 (uE rfl))) ?_
 refine Y.call (dX rfl rfl .g4) rfl (by decide) rfl (bF rfl Tryz.func21 rfl rfl (aR (.t .g2) (.t .z))) .n (fun _ _ hs tr=>aNf (aM ((zU an m8 ((gQ ((gW an m8 m9 ab).fs) m8).bytes) ab).fs) (tr.own .g2) (tr.own .g3)) (aM ((gW an m8 m9 ab).fs) (tr.ctx al) (tr.ctx aq))) ?_
 rintro _ _ ⟨rfl,rfl⟩
 refine Y.r .n ?_
 refine Y.ql rfl (bB rfl (.t .g5) (.t .z)) (Y.mv rfl .z ?_)
 refine Y.ak .z (fun g169=> ?_) (fun g169=> ?_)
 refine Y.qg rfl rfl .z rfl rfl rfl (aL rfl (.t (.s16 (.s16 .g8))) (fun _=>oL _ _)) ?_
 refine Y.qg rfl rfl .g1 rfl rfl rfl (aN rfl bR (.t .z) (WS.g .z rfl)) ?_
 refine Y.qg rfl rfl .g2 rfl rfl rfl (bP rfl (.t .z) .c) ?_
 refine Y.ql rfl (bB rfl (.t .g3) (.t .z)) (Y.mv rfl .z ?_)
 refine Y.ak .z (fun g170=> ?_) (fun g170=> ?_)
 refine Y.qg rfl rfl .z rfl rfl rfl (aL rfl (.t (.s16 (.s16 .g13))) (fun _=>lY _ _)) ?_
 refine Y.qg rfl rfl .g1 rfl rfl rfl (mA (k:=1) rfl (.t .z) (fun _=>aP _ _) rfl) ?_
 refine Y.qg rfl rfl .g2 rfl rfl rfl (aN rfl bO (.t .z) (WS.g .z rfl)) ?_
 refine Y.qg rfl rfl .g3 rfl rfl rfl (aS rfl (.t (.s16 (.s16 (.s16 (.s16 .g10)))))) ?_
 obtain⟨f7,bf,bg⟩:=(yO az) (by omega)
 subst bf
 obtain⟨gh,a4⟩:=aJ (xs:=(wX an m8).fs.inodes) (j:=Int.toNat m8) (by omega)
 obtain⟨e7,bz,b0,b1⟩:=bg.elem a4
 obtain⟨dx,dy,rfl,bh,bi⟩:=bV bz
 obtain⟨dz,d0,rfl,ct,cu,cv,cw⟩:=aD bh
 obtain⟨d1,d2,rfl,cx,cy,cz,c1⟩:=aD bi
 refine Y.qg rfl rfl .g4 rfl rfl rfl (aB (j:=Int.toNat m8) rfl cI aU (.t .g1) (.t .z) (by omega) (by omega)) ?_
 refine Y.qg rfl rfl .g5 rfl rfl rfl (aL rfl (.t .z) (fun _=>bW _ _)) ?_
 refine Y.qg rfl rfl .g6 rfl rfl rfl (aN rfl bR (.t .z) (WS.el b0 b1 rfl)) ?_
 refine Y.qg rfl rfl .g7 rfl rfl rfl (bP rfl (.t .z) .c) ?_
 refine Y.ql rfl (bB rfl (.t .g8) (.t .z)) (Y.as rfl .z (Y.nt (Y.ret ?_)))
 refine Y.aw (fun l w h=>ac _ _ (ad _ _ (ae _ _ (af _ _ (ag _ _ (ai _ _ (aj _ _ (h)))))))) ?_
 refine Y.j (aT rfl .z) .n ?_
 first |(focus(contradiction)) |(focus(exact⟨congrArg Value.bool (decide_eq_true (Bb _ a4)),rfl⟩)) |(focus(exact absurd (Bb _ a4) (by assumption))) | exact⟨rfl,rfl⟩ |(focus(exfalso;omega)) |(focus(exfalso;simp_all;done)) |(focus(refine⟨congrArg Value.bool ?_,rfl⟩;simp_all;done)) |(focus(refine⟨congrArg Value.bool ?_,rfl⟩;simp_all;omega))
 refine Y.h rfl rfl .z rfl rfl (by decide) rfl ?_
 refine Y.h rfl rfl .g1 rfl rfl (by decide) rfl ?_
 refine Y.h rfl rfl .g2 rfl rfl (by decide) rfl ?_
 refine Y.h rfl rfl .g3 rfl rfl (by decide) rfl ?_
 refine Y.h rfl rfl .g4 rfl rfl (by decide) rfl ?_
 refine Y.h rfl rfl .g5 rfl rfl (by decide) rfl ?_
 refine Y.h rfl rfl .g6 rfl rfl (by decide) rfl ?_
 refine Y.h rfl rfl .g7 rfl rfl (by decide) rfl ?_
 refine Y.ql rfl (aV rfl (.t .g8) .c) (Y.as rfl .z (Y.nt (Y.ret ?_)))
 refine Y.aw (fun l w h=>ac _ _ (ad _ _ (ae _ _ (af _ _ (ag _ _ (ai _ _ (aj _ _ (h)))))))) ?_
 refine Y.j (aT rfl .z) .n ?_
 first |(focus(contradiction)) | exact⟨rfl,rfl⟩ |(focus(exfalso;omega)) |(focus(exfalso;simp_all;done)) |(focus(refine⟨congrArg Value.bool ?_,rfl⟩;simp_all;done)) |(focus(refine⟨congrArg Value.bool ?_,rfl⟩;simp_all;omega))
 refine Y.h rfl rfl .z rfl rfl (by decide) rfl ?_
 refine Y.h rfl rfl .g1 rfl rfl (by decide) rfl ?_
 refine Y.h rfl rfl .g2 rfl rfl (by decide) rfl ?_
 refine Y.ql rfl (aV rfl (.t .g3) .c) (Y.mv rfl .z ?_)
 refine Y.h rfl rfl .z rfl rfl (by decide) rfl ?_
 refine Y.h rfl rfl .g1 rfl rfl (by decide) rfl ?_
 refine Y.h rfl rfl .g2 rfl rfl (by decide) rfl ?_
 refine Y.h rfl rfl .g3 rfl rfl (by decide) rfl ?_
 refine Y.h rfl rfl .g4 rfl rfl (by decide) rfl ?_
 refine Y.h rfl rfl .g5 rfl rfl (by decide) rfl ?_
 refine Y.h rfl rfl .g6 rfl rfl (by decide) rfl ?_
 refine Y.h rfl rfl .g7 rfl rfl (by decide) rfl ?_
 refine Y.ql rfl (aV rfl (.t .g8) .c) (Y.as rfl .z (Y.nt (Y.ret ?_)))
 refine Y.aw (fun l w h=>ac _ _ (ad _ _ (ae _ _ (af _ _ (ag _ _ (ai _ _ (aj _ _ (h)))))))) ?_
 refine Y.j (aT rfl .z) .n ?_
 first |(focus(contradiction)) | exact⟨rfl,rfl⟩ |(focus(exfalso;omega)) |(focus(exfalso;simp_all;done)) |(focus(refine⟨congrArg Value.bool ?_,rfl⟩;simp_all;done)) |(focus(refine⟨congrArg Value.bool ?_,rfl⟩;simp_all;omega))
 refine Y.h rfl rfl .z rfl rfl (by decide) rfl ?_
 refine Y.h rfl rfl .g1 rfl rfl (by decide) rfl ?_
 refine Y.h rfl rfl .g2 rfl rfl (by decide) rfl ?_
 refine Y.h rfl rfl .g3 rfl rfl (by decide) rfl ?_
 refine Y.h rfl rfl .g4 rfl rfl (by decide) rfl ?_
 refine Y.ql rfl (aV rfl (.t .g5) .c) (Y.mv rfl .z ?_)
 refine Y.h rfl rfl .z rfl rfl (by decide) rfl ?_
 refine Y.h rfl rfl .g1 rfl rfl (by decide) rfl ?_
 refine Y.h rfl rfl .g2 rfl rfl (by decide) rfl ?_
 refine Y.ql rfl (aV rfl (.t .g3) .c) (Y.mv rfl .z ?_)
 refine Y.h rfl rfl .z rfl rfl (by decide) rfl ?_
 refine Y.h rfl rfl .g1 rfl rfl (by decide) rfl ?_
 refine Y.h rfl rfl .g2 rfl rfl (by decide) rfl ?_
 refine Y.h rfl rfl .g3 rfl rfl (by decide) rfl ?_
 refine Y.h rfl rfl .g4 rfl rfl (by decide) rfl ?_
 refine Y.h rfl rfl .g5 rfl rfl (by decide) rfl ?_
 refine Y.h rfl rfl .g6 rfl rfl (by decide) rfl ?_
 refine Y.h rfl rfl .g7 rfl rfl (by decide) rfl ?_
 refine Y.ql rfl (aV rfl (.t .g8) .c) (Y.as rfl .z (Y.nt (Y.ret ?_)))
 refine Y.aw (fun l w h=>ac _ _ (ad _ _ (ae _ _ (af _ _ (ag _ _ (ai _ _ (aj _ _ (h)))))))) ?_
 refine Y.j (aT rfl .z) .n ?_
 first |(focus(contradiction)) | exact⟨rfl,rfl⟩ |(focus(exfalso;omega)) |(focus(exfalso;simp_all;done)) |(focus(refine⟨congrArg Value.bool ?_,rfl⟩;simp_all;done)) |(focus(refine⟨congrArg Value.bool ?_,rfl⟩;simp_all;omega))
 refine Y.h rfl rfl .z rfl rfl (by decide) rfl ?_
 refine Y.h rfl rfl .g1 rfl rfl (by decide) rfl ?_
 refine Y.h rfl rfl .g2 rfl rfl (by decide) rfl ?_
 refine Y.ql rfl (aV rfl (.t .g3) .c) (Y.mv rfl .z ?_)
 refine Y.h rfl rfl .z rfl rfl (by decide) rfl ?_
 refine Y.h rfl rfl .g1 rfl rfl (by decide) rfl ?_
 refine Y.h rfl rfl .g2 rfl rfl (by decide) rfl ?_
 refine Y.h rfl rfl .g3 rfl rfl (by decide) rfl ?_
 refine Y.h rfl rfl .g4 rfl rfl (by decide) rfl ?_
 refine Y.ql rfl (aV rfl (.t .g5) .c) (Y.mv rfl .z ?_)
 refine Y.h rfl rfl .z rfl rfl (by decide) rfl ?_
 refine Y.h rfl rfl .g1 rfl rfl (by decide) rfl ?_
 refine Y.h rfl rfl .g2 rfl rfl (by decide) rfl ?_
 refine Y.ql rfl (aV rfl (.t .g3) .c) (Y.mv rfl .z ?_)
 refine Y.h rfl rfl .z rfl rfl (by decide) rfl ?_
 refine Y.h rfl rfl .g1 rfl rfl (by decide) rfl ?_
 refine Y.h rfl rfl .g2 rfl rfl (by decide) rfl ?_
 refine Y.h rfl rfl .g3 rfl rfl (by decide) rfl ?_
 refine Y.h rfl rfl .g4 rfl rfl (by decide) rfl ?_
 refine Y.h rfl rfl .g5 rfl rfl (by decide) rfl ?_
 refine Y.h rfl rfl .g6 rfl rfl (by decide) rfl ?_
 refine Y.h rfl rfl .g7 rfl rfl (by decide) rfl ?_
 refine Y.ql rfl (aV rfl (.t .g8) .c) (Y.as rfl .z (Y.nt (Y.ret ?_)))
 refine Y.aw (fun l w h=>ac _ _ (ad _ _ (ae _ _ (af _ _ (ag _ _ (ai _ _ (aj _ _ (h)))))))) ?_
 refine Y.j (aT rfl .z) .n ?_
 first |(focus(contradiction)) | exact⟨rfl,rfl⟩ |(focus(exfalso;omega)) |(focus(exfalso;simp_all;done)) |(focus(refine⟨congrArg Value.bool ?_,rfl⟩;simp_all;done)) |(focus(refine⟨congrArg Value.bool ?_,rfl⟩;simp_all;omega))
 refine Y.h rfl rfl .z rfl rfl (by decide) rfl ?_
 refine Y.h rfl rfl .g1 rfl rfl (by decide) rfl ?_
 refine Y.h rfl rfl .g2 rfl rfl (by decide) rfl ?_
 refine Y.h rfl rfl .g3 rfl rfl (by decide) rfl ?_
 refine Y.ql rfl (aV rfl (.t .g4) .c) (Y.mv rfl .z ?_)
 refine Y.h rfl rfl .z rfl rfl (by decide) rfl ?_
 refine Y.h rfl rfl .g1 rfl rfl (by decide) rfl ?_
 refine Y.h rfl rfl .g2 rfl rfl (by decide) rfl ?_
 refine Y.ql rfl (aV rfl (.t .g3) .c) (Y.mv rfl .z ?_)
 refine Y.h rfl rfl .z rfl rfl (by decide) rfl ?_
 refine Y.h rfl rfl .g1 rfl rfl (by decide) rfl ?_
 refine Y.h rfl rfl .g2 rfl rfl (by decide) rfl ?_
 refine Y.h rfl rfl .g3 rfl rfl (by decide) rfl ?_
 refine Y.h rfl rfl .g4 rfl rfl (by decide) rfl ?_
 refine Y.ql rfl (aV rfl (.t .g5) .c) (Y.mv rfl .z ?_)
 refine Y.h rfl rfl .z rfl rfl (by decide) rfl ?_
 refine Y.h rfl rfl .g1 rfl rfl (by decide) rfl ?_
 refine Y.h rfl rfl .g2 rfl rfl (by decide) rfl ?_
 refine Y.ql rfl (aV rfl (.t .g3) .c) (Y.mv rfl .z ?_)
 refine Y.h rfl rfl .z rfl rfl (by decide) rfl ?_
 refine Y.h rfl rfl .g1 rfl rfl (by decide) rfl ?_
 refine Y.h rfl rfl .g2 rfl rfl (by decide) rfl ?_
 refine Y.h rfl rfl .g3 rfl rfl (by decide) rfl ?_
 refine Y.h rfl rfl .g4 rfl rfl (by decide) rfl ?_
 refine Y.h rfl rfl .g5 rfl rfl (by decide) rfl ?_
 refine Y.h rfl rfl .g6 rfl rfl (by decide) rfl ?_
 refine Y.h rfl rfl .g7 rfl rfl (by decide) rfl ?_
 refine Y.ql rfl (aV rfl (.t .g8) .c) (Y.as rfl .z (Y.nt (Y.ret ?_)))
 refine Y.aw (fun l w h=>ac _ _ (ad _ _ (ae _ _ (af _ _ (ag _ _ (ai _ _ (aj _ _ (h)))))))) ?_
 refine Y.j (aT rfl .z) .n ?_
 first |(focus(contradiction)) | exact⟨rfl,rfl⟩ |(focus(exfalso;omega)) |(focus(exfalso;simp_all;done)) |(focus(refine⟨congrArg Value.bool ?_,rfl⟩;simp_all;done)) |(focus(refine⟨congrArg Value.bool ?_,rfl⟩;simp_all;omega))
 refine Y.h rfl rfl .z rfl rfl (by decide) rfl ?_
 refine Y.h rfl rfl .g1 rfl rfl (by decide) rfl ?_
 refine Y.h rfl rfl .g2 rfl rfl (by decide) rfl ?_
 refine Y.h rfl rfl .g3 rfl rfl (by decide) rfl ?_
 refine Y.h rfl rfl .g4 rfl rfl (by decide) rfl ?_
 refine Y.h rfl rfl .g5 rfl rfl (by decide) rfl ?_
 refine Y.h rfl rfl .g6 rfl rfl (by decide) rfl ?_
 refine Y.h rfl rfl .g7 rfl rfl (by decide) rfl ?_
 refine Y.h rfl rfl .g8 rfl rfl (by decide) rfl ?_
 refine Y.ql rfl (aV rfl (.t .g9) .c) (Y.mv rfl .z ?_)
 refine Y.h rfl rfl .z rfl rfl (by decide) rfl ?_
 refine Y.h rfl rfl .g1 rfl rfl (by decide) rfl ?_
 refine Y.h rfl rfl .g2 rfl rfl (by decide) rfl ?_
 refine Y.h rfl rfl .g3 rfl rfl (by decide) rfl ?_
 refine Y.ql rfl (aV rfl (.t .g4) .c) (Y.mv rfl .z ?_)
 refine Y.h rfl rfl .z rfl rfl (by decide) rfl ?_
 refine Y.h rfl rfl .g1 rfl rfl (by decide) rfl ?_
 refine Y.h rfl rfl .g2 rfl rfl (by decide) rfl ?_
 refine Y.ql rfl (aV rfl (.t .g3) .c) (Y.mv rfl .z ?_)
 refine Y.h rfl rfl .z rfl rfl (by decide) rfl ?_
 refine Y.h rfl rfl .g1 rfl rfl (by decide) rfl ?_
 refine Y.h rfl rfl .g2 rfl rfl (by decide) rfl ?_
 refine Y.h rfl rfl .g3 rfl rfl (by decide) rfl ?_
 refine Y.h rfl rfl .g4 rfl rfl (by decide) rfl ?_
 refine Y.ql rfl (aV rfl (.t .g5) .c) (Y.mv rfl .z ?_)
 refine Y.h rfl rfl .z rfl rfl (by decide) rfl ?_
 refine Y.h rfl rfl .g1 rfl rfl (by decide) rfl ?_
 refine Y.h rfl rfl .g2 rfl rfl (by decide) rfl ?_
 refine Y.ql rfl (aV rfl (.t .g3) .c) (Y.mv rfl .z ?_)
 refine Y.h rfl rfl .z rfl rfl (by decide) rfl ?_
 refine Y.h rfl rfl .g1 rfl rfl (by decide) rfl ?_
 refine Y.h rfl rfl .g2 rfl rfl (by decide) rfl ?_
 refine Y.h rfl rfl .g3 rfl rfl (by decide) rfl ?_
 refine Y.h rfl rfl .g4 rfl rfl (by decide) rfl ?_
 refine Y.h rfl rfl .g5 rfl rfl (by decide) rfl ?_
 refine Y.h rfl rfl .g6 rfl rfl (by decide) rfl ?_
 refine Y.h rfl rfl .g7 rfl rfl (by decide) rfl ?_
 refine Y.ql rfl (aV rfl (.t .g8) .c) (Y.as rfl .z (Y.nt (Y.ret ?_)))
 refine Y.aw (fun l w h=>ac _ _ (ad _ _ (ae _ _ (af _ _ (ag _ _ (ai _ _ (aj _ _ (h)))))))) ?_
 refine Y.j (aT rfl .z) .n ?_
 first |(focus(contradiction)) | exact⟨rfl,rfl⟩ |(focus(exfalso;omega)) |(focus(exfalso;simp_all;done)) |(focus(refine⟨congrArg Value.bool ?_,rfl⟩;simp_all;done)) |(focus(refine⟨congrArg Value.bool ?_,rfl⟩;simp_all;omega))
 refine Y.h rfl rfl .z rfl rfl (by decide) rfl ?_
 refine Y.h rfl rfl .g1 rfl rfl (by decide) rfl ?_
 refine Y.h rfl rfl .g2 rfl rfl (by decide) rfl ?_
 refine Y.h rfl rfl .g3 rfl rfl (by decide) rfl ?_
 refine Y.h rfl rfl .g4 rfl rfl (by decide) rfl ?_
 refine Y.ql rfl (aV rfl (.t .g5) .c) (Y.mv rfl .z ?_)
 refine Y.h rfl rfl .z rfl rfl (by decide) rfl ?_
 refine Y.h rfl rfl .g1 rfl rfl (by decide) rfl ?_
 refine Y.h rfl rfl .g2 rfl rfl (by decide) rfl ?_
 refine Y.h rfl rfl .g3 rfl rfl (by decide) rfl ?_
 refine Y.h rfl rfl .g4 rfl rfl (by decide) rfl ?_
 refine Y.h rfl rfl .g5 rfl rfl (by decide) rfl ?_
 refine Y.h rfl rfl .g6 rfl rfl (by decide) rfl ?_
 refine Y.h rfl rfl .g7 rfl rfl (by decide) rfl ?_
 refine Y.h rfl rfl .g8 rfl rfl (by decide) rfl ?_
 refine Y.ql rfl (aV rfl (.t .g9) .c) (Y.mv rfl .z ?_)
 refine Y.h rfl rfl .z rfl rfl (by decide) rfl ?_
 refine Y.h rfl rfl .g1 rfl rfl (by decide) rfl ?_
 refine Y.h rfl rfl .g2 rfl rfl (by decide) rfl ?_
 refine Y.h rfl rfl .g3 rfl rfl (by decide) rfl ?_
 refine Y.ql rfl (aV rfl (.t .g4) .c) (Y.mv rfl .z ?_)
 refine Y.h rfl rfl .z rfl rfl (by decide) rfl ?_
 refine Y.h rfl rfl .g1 rfl rfl (by decide) rfl ?_
 refine Y.h rfl rfl .g2 rfl rfl (by decide) rfl ?_
 refine Y.ql rfl (aV rfl (.t .g3) .c) (Y.mv rfl .z ?_)
 refine Y.h rfl rfl .z rfl rfl (by decide) rfl ?_
 refine Y.h rfl rfl .g1 rfl rfl (by decide) rfl ?_
 refine Y.h rfl rfl .g2 rfl rfl (by decide) rfl ?_
 refine Y.h rfl rfl .g3 rfl rfl (by decide) rfl ?_
 refine Y.h rfl rfl .g4 rfl rfl (by decide) rfl ?_
 refine Y.ql rfl (aV rfl (.t .g5) .c) (Y.mv rfl .z ?_)
 refine Y.h rfl rfl .z rfl rfl (by decide) rfl ?_
 refine Y.h rfl rfl .g1 rfl rfl (by decide) rfl ?_
 refine Y.h rfl rfl .g2 rfl rfl (by decide) rfl ?_
 refine Y.ql rfl (aV rfl (.t .g3) .c) (Y.mv rfl .z ?_)
 refine Y.h rfl rfl .z rfl rfl (by decide) rfl ?_
 refine Y.h rfl rfl .g1 rfl rfl (by decide) rfl ?_
 refine Y.h rfl rfl .g2 rfl rfl (by decide) rfl ?_
 refine Y.h rfl rfl .g3 rfl rfl (by decide) rfl ?_
 refine Y.h rfl rfl .g4 rfl rfl (by decide) rfl ?_
 refine Y.h rfl rfl .g5 rfl rfl (by decide) rfl ?_
 refine Y.h rfl rfl .g6 rfl rfl (by decide) rfl ?_
 refine Y.h rfl rfl .g7 rfl rfl (by decide) rfl ?_
 refine Y.ql rfl (aV rfl (.t .g8) .c) (Y.as rfl .z (Y.nt (Y.ret ?_)))
 refine Y.aw (fun l w h=>ac _ _ (ad _ _ (ae _ _ (af _ _ (ag _ _ (ai _ _ (aj _ _ (h)))))))) ?_
 refine Y.j (aT rfl .z) .n ?_
 first |(focus(contradiction)) | exact⟨rfl,rfl⟩ |(focus(exfalso;omega)) |(focus(exfalso;simp_all;done)) |(focus(refine⟨congrArg Value.bool ?_,rfl⟩;simp_all;done)) |(focus(refine⟨congrArg Value.bool ?_,rfl⟩;simp_all;omega))

end Go.Proofs.YtmejbfmhaoilmaaGreat

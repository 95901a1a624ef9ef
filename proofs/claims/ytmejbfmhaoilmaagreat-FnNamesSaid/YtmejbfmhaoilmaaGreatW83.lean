/- What is proved: contracts of functions, one a function. No condition. -/
import Derived.Test.YtmejbfmhaoilmaaGreatBase1
import Derived.Test.YtmejbfmhaoilmaaGreatW80
import Derived.Test.YtmejbfmhaoilmaaGreatW81
namespace Go.Proofs.YtmejbfmhaoilmaaGreat
open Go Go.RowKit
set_option linter.unusedVariables false
set_option linter.unusedSimpArgs false
set_option maxHeartbeats 1000000
set_option maxRecDepth 20000
theorem aGg {w0:World}{S0:Bs}{f:DFs}{cy:List Value} (h0:eU.ro w0 (FF w0 S0) f cy) {c:oW}{cz:List Value} (h1:vK.ro w0 (FF w0 S0) c cz) {b:(List Int)}{v2:Value} (h2:bY.ro w0 (FF w0 S0) b [v2]) (hj:Jf f):
    Calls Tryz.prog 156 #[.agg cy.toArray,.agg cz.toArray,v2] w0 (aJ w0 S0 (fun r l=>∃x:eJ,Jf x.fs∧sA x r l)):=by
 obtain⟨f7,f8,rfl,aa,ab⟩:=cY h0
 obtain⟨ax,ay,rfl,c0,c1,c3,az⟩:=aH aa
 obtain⟨a0,a1,rfl,c4,c5,c6,c7⟩:=aH ab
 obtain⟨f9,rfl,a2,ga,gb⟩:=sK h1
 obtain⟨a3,a4,rfl,c8,c9,da,db⟩:=aH a2
 obtain⟨A2,c2,rfl,h8,h9,ia,ib⟩:=aH h2
 have ht:J0 f:=hj.toJ0
 have ic:=hj.n.2
 have id:=hj.n.1
 refine Y.enter (N:=91) Tryz.func156 rfl rfl (by simp) [(0,.agg #[.slice ax f.inodes.length ay,.slice a0 f.data.length a1]),(1,.agg #[.int .i64 c.kind,.string c.path,.string c.to,.int .i64 c.frm,.int .i64 c.size,.slice a3 c.data.length a4]),(2,.slice A2 b.length c2)] (by simp) (l0:= []) trivial ?_
 refine Y.seq (Y.region ?_)
 refine Y.el rfl (fT (cs:= [.slice ax f.inodes.length ay,.slice a0 f.data.length a1]) (n:=2) rfl (.t .z) rfl rfl) ?_
 rintro _ _ ⟨g5,rfl,rfl⟩
 refine Y.el rfl (fT (cs:= [.int .i64 c.kind,.string c.path,.string c.to,.int .i64 c.frm,.int .i64 c.size,.slice a3 c.data.length a4]) (n:=6) rfl (.t .g2) rfl rfl) ?_
 rintro _ _ ⟨g6,rfl,rfl⟩
 refine Y.el rfl (bL rfl tP rfl rfl) ?_
 rintro _ _ ⟨g7,rfl,rfl⟩
 refine Y.nt (Y.seq (Y.region (Y.fa rfl .g1 nB (Y.ld rfl iR .z .g1 ?_))))
 refine Y.cl rfl rfl Tryz.func174 rfl rfl (aX (.t .g4) (.t .z)) .n (fun _ _ hs tr=>aC4 (tr.ptr .g2 (aM f (tr.ctx aa) (tr.ctx ab))) _ (by first | assumption | omega) (by assumption)) ?_
 rintro _ _ ⟨rfl,rfl⟩
 refine Y.m .n ?_
 have dc:=qH ht c.path
 refine Y.mv rfl .z (Y.ql rfl (cC (v:= .int .i64 ((dA f c.path).1)) rfl (.t .z) rfl) (Y.ql rfl (cC (v:= .int .i64 ((dA f c.path).2)) rfl (.t .g1) rfl) (Y.as rfl .g1 (Y.as rfl .g1 (Y.nt (Y.seq (Y.seq ?_)))))))
 refine Y.region (Y.mv rfl .z (Y.ql rfl (cU rfl (.t .z) .c) (Y.nt ?_)))
 refine Y.ad (.t .z) (fun b9=> ?_) (fun b9=> ?_)
 refine Y.seq (Y.region (Y.ql rfl (qW rfl bI (.t .g12) .g2 aW) (Y.mv rfl .g3 ?_)))
 refine Y.cl rfl rfl Tryz.func172 rfl rfl (aX (.t .g1) (.t .z)) .n (fun _ _ hs tr=>hU (aM f (tr.ctx aa) (tr.ctx ab)) _) ?_
 rintro _ _ ⟨ie,ig,ih,ii,rfl,rfl⟩
 refine Y.m (.c (.c (.c (.c .n)))) ?_
 refine Y.h (WS.a .z) ?_
 rintro⟨gc,gd,rfl,dd,dg,dh⟩
 refine Y.h (WS.a .g1) ?_
 rintro⟨ge,gf,rfl,di,dj,dp⟩
 refine Y.h (WS.a .g2) ?_
 rintro⟨gg,gh,rfl,ds,dt,du⟩
 refine Y.h (WS.a .g3) ?_
 rintro⟨gi,gj,rfl,dv,dw,dx⟩
 refine Y.es (aD rfl) rfl (esW rfl (.t .g13) (.t .z) .g4 bG rfl rfl) ?_
 refine Y.nt (Y.ret (Y.r ?_))
 refine Y.i (dD rfl .g13 dS .z bG) (.c .g1 (.c .g1 (.c .g1 (.c .g1 .n)))) ?_
 exact⟨(⟨0,((dA f c.path).2),0,[],[],(⟨f.inodes,f.data⟩:DFs)⟩:eJ),(by first | exact hj | assumption),_,_,_,_,rfl,rfl⟩
 refine Y.skip (Y.g (Y.seq (Y.seq (Y.region (Y.fa rfl .g12 aO (Y.ld rfl bK .z .g2 (Y.mv rfl .g5 ?_)))))))
 obtain⟨gk,ao,ap⟩:=az (by omega)
 subst ao
 obtain⟨ij,ag⟩:=aI (xs:=f.inodes) (j:=Int.toNat ((dA f c.path).1)) (by first | omega |(simp <;> omega))
 obtain⟨dy,a5,a6,a7⟩:=ap.elem ag
 obtain⟨bp,bq,rfl,aq,ar⟩:=cK a5
 obtain⟨br,bs,rfl,bg,bh,bi,bj⟩:=aH aq
 obtain⟨bt,bu,rfl,bk,bm,bn,bo⟩:=aH ar
 have gl:=cH (i:=((dA f c.path).1)) ag (by omega)
 have gm:=cI (a:=((dA f c.path).1)) ag (by omega)
 have gn:=dC (a:=((dA f c.path).1)) ag (by omega)
 have dz:=ht.get ag
 refine Y.ql rfl (aC (j:=Int.toNat ((dA f c.path).1)) rfl cE aU (.t .g1) (.t .z) (by omega) (by first | omega |(simp <;> omega))) ?_
 refine Y.fa rfl .z cV (Y.le rfl cF .z a6 a7 (Y.ql rfl (bZ rfl (.t .z) .c) (Y.nt ?_)))
 refine Y.u (.t .z) (fun go=> ?_) (fun go=> ?_)
 refine Y.seq (Y.region (Y.ql rfl (qW rfl bI (.t (.s16 .g3)) .g2 aW) ?_))
 refine Y.cl rfl rfl Tryz.func172 rfl rfl (aX (.t .z) .c) .n (fun _ _ hs tr=>hU (aM f (tr.ctx aa) (tr.ctx ab)) _) ?_
 rintro _ _ ⟨ik,il,im,io,rfl,rfl⟩
 refine Y.m (.c (.c (.c (.c .n)))) ?_
 refine Y.h (WS.a .z) ?_
 rintro⟨gp,gq,rfl,d0,d1,d2⟩
 refine Y.h (WS.a .g1) ?_
 rintro⟨gr,gs,rfl,d3,d4,d5⟩
 refine Y.h (WS.a .g2) ?_
 rintro⟨gt,gu,rfl,d6,d7,d8⟩
 refine Y.h (WS.a .g3) ?_
 rintro⟨gv,gw,rfl,d9,ea,eb⟩
 refine Y.es (aD rfl) rfl (esW rfl (.t (.s16 .g3)) (.t .z) .g4 bG rfl rfl) ?_
 refine Y.nt (Y.ret (Y.r ?_))
 refine Y.i (dD rfl (.s16 .g3) dS .z bG) (.c .g1 (.c .g1 (.c .g1 (.c .g1 .n)))) ?_
 exact⟨(⟨0,9,0,[],[],(⟨f.inodes,f.data⟩:DFs)⟩:eJ),(by first | exact hj | assumption),_,_,_,_,rfl,rfl⟩
 refine Y.skip (Y.g (Y.seq (Y.region (Y.ql rfl (aZ (cs:= [.int .i64 0,.slice none 0 0,.slice none 0 0]) rfl kW pv0 rfl) ?_))))
 refine Y.el rfl (bL rfl xC rfl rfl) ?_
 rintro _ _ ⟨g40,rfl,rfl⟩
 refine Y.es (aD rfl) rfl (esW rfl (.t .z) (.t .g1) .z fC rfl rfl) ?_
 refine Y.nt (Y.seq (Y.seq (Y.region (Y.fa rfl (.s16 .g4) pX (Y.ld rfl cF .z .g2 (Y.nt ?_))))))
 refine Y.block (Y.seq (Y.region (Y.ql rfl (bZ rfl (.t .z) .c) (Y.as rfl .z (Y.nt ?_)))))
 refine Y.u (.t .z) (fun gx=> ?_) (fun gx=> ?_)
 refine Y.seq (Y.region (Y.ql rfl (qW rfl bI (.t (.s16 .g9)) .g3 aW) (Y.mv rfl (.s16 .g1) (Y.fa rfl (.s16 .g10) aCq (Y.ld rfl cF .z .g2 (Y.fa rfl (.s16 .g12) aB6 (Y.ld rfl cF .z .g2 ?_)))))))
 refine Y.cl rfl rfl Tryz.func11 rfl rfl (oT (.t .g5) (.t .g4) (.t .g2) (.t .z)) .n (fun _ _ hs tr=>aNs (aM f (tr.ctx aa) (tr.ctx ab)) _ _ _) ?_
 rintro _ _ ⟨ip,rfl,rfl⟩
 refine Y.m (.c .n) ?_
 refine Y.h (WS.a .z) ?_
 rintro⟨bv,bw,rfl,ec,ed,ee⟩
 refine Y.el rfl (bL rfl aJe rfl rfl) ?_
 rintro _ _ ⟨g45,rfl,rfl⟩
 refine Y.es (aD rfl) rfl (esW rfl (.t .z) (.t .g1) .z kH rfl rfl) ?_
 refine Y.nt (Y.seq (Y.seq (Y.region (Y.fa rfl .z aA9 (Y.ld rfl cF .z .z (Y.ql rfl (cU rfl (.t .z) .c) (Y.nil ?_)))))))
 refine Y.g ?_
 refine Y.ad (.t .z) (fun gy=> ?_) (fun gy=> ?_)
 refine Y.seq (Y.region (Y.ql rfl (qW rfl bI (.t (.s16 (.s16 .g4))) .g5 aW) (Y.fa rfl .g4 aA9 (Y.ld rfl cF .z .z ?_))))
 refine Y.cl rfl rfl Tryz.func172 rfl rfl (aX (.t .g2) (.t .z)) .n (fun _ _ hs tr=>hU (aM f (tr.ctx aa) (tr.ctx ab)) _) ?_
 rintro _ _ ⟨iq,ir,it,iu,rfl,rfl⟩
 refine Y.m (.c (.c (.c (.c .n)))) ?_
 refine Y.h (WS.a .z) ?_
 rintro⟨gz,g0,rfl,ef,eg,eh⟩
 refine Y.h (WS.a .g1) ?_
 rintro⟨ha,hb,rfl,ei,ej,ek⟩
 refine Y.h (WS.a .g2) ?_
 rintro⟨hc,hd,rfl,em,en,eo⟩
 refine Y.h (WS.a .g3) ?_
 rintro⟨he,hf,rfl,ep,et,eu⟩
 refine Y.es (aD rfl) rfl (esW rfl (.t (.s16 (.s16 .g6))) (.t .z) .g7 bG rfl rfl) ?_
 refine Y.nt (Y.ret (Y.r (Y.y (Y.r ?_))))
 refine Y.i (dD rfl (.s16 (.s16 .g6)) dS .z bG) (.c .g1 (.c .g1 (.c .g1 (.c .g1 .n)))) ?_
 exact⟨(⟨0,((qR f ((dA f c.path).1) c.frm c.size).code),0,[],[],(⟨f.inodes,f.data⟩:DFs)⟩:eJ),(by first | exact hj | assumption),_,_,_,_,rfl,rfl⟩
 refine Y.skip (Y.g (Y.seq ?_))
 refine Y.sel (.c .g1 (.c .z (.c .z (.c .z (.c .z (.c .z .n)))))) ?_
 refine Y.dr .g1 8 gG ?_
 refine Y.sc (qs 0 6++ [(6,false),(7,true),(8,false)]) (by kernel_rfl) ?_
 refine Y.df rfl rfl .g1 .g3 wI (Y.dl rfl rfl .g1 nL .z .z (Y.dk rfl rfl .g1 (bM rfl gV (.t .z)) (Y.df rfl rfl .g1 .g6 wI (Y.dl rfl rfl .g1 nL .z .z (Y.dk rfl rfl .g1 (qW rfl bI (.t (.s16 (.s16 .g9))) .g4 aW) ?_)))))
 refine Y.call (aE rfl rfl) rfl (by decide) rfl (bS rfl Tryz.func67 rfl rfl (bT (.t .z))) .n (fun _ _ hs tr=>vJ (aM f (tr.ctx aa) (tr.ctx ab))) ?_
 rintro _ _ ⟨iv,iw,rfl,rfl⟩
 refine Y.m (.c (.c .n)) ?_
 refine Y.h (WS.a .z) ?_
 rintro⟨bx,bz,rfl,ew,ey,ez⟩
 refine Y.h (WS.a .g1) ?_
 rintro⟨b0,b1,rfl,e0,e1,e2⟩
 refine Y.sk .g3 ?_
 refine Y.dk rfl rfl .g3 (aZ (cs:= [.int .i64 0,.int .i64 0,.int .i64 (((qR f ((dA f c.path).1) c.frm c.size).bytes).length:Int),.slice bv ((qR f ((dA f c.path).1) c.frm c.size).bytes).length bw,.slice none 0 0,.slice bx f.inodes.length bz,.slice b0 f.data.length b1]) rfl mO (pv3 (.t .g4) (.t .g2) (.t .z)) rfl) ?_
 refine Y.es (aE rfl rfl) rfl (esW rfl (.t (.s16 (.s16 .g10))) (.t .z) .g5 bG rfl rfl) ?_
 refine Y.sl rfl ?_
 refine Y.aa ?_
 refine Y.ag (by kernel_rfl) ?_
 refine Y.g (Y.ret (Y.y (Y.r ?_)))
 refine Y.add (c:=aG fB [] [.slice none 0 0]) (fun w S=>aN w S none) ?_
 refine Y.i (dD rfl (.s16 (.s16 .g10)) dS .g1 bG) (.c .g4 (.c .z (.c .g1 (.c .g1 .n)))) ?_
 exact⟨(⟨0,0,(((qR f ((dA f c.path).1) c.frm c.size).bytes).length:Int),(qR f ((dA f c.path).1) c.frm c.size).bytes,[],(⟨f.inodes,f.data⟩:DFs)⟩:eJ),(by first | exact hj | assumption),_,_,_,_,rfl,rfl⟩
 refine Y.seq (Y.region (Y.ql rfl (bZ rfl (.t .g2) .c) (Y.as rfl .z (Y.nt ?_))))
 refine Y.u (.t .z) (fun hg=> ?_) (fun hg=> ?_)
 refine Y.region (Y.ql rfl (qW rfl bI (.t (.s16 .g11)) .g3 aW) (Y.mv rfl (.s16 .g3) (Y.fa rfl (.s16 .g12) aCq (Y.ld rfl cF .z .g2 (Y.fa rfl (.s16 .g14) aIg (Y.ld rfl nL .z .g2 (Y.mv rfl (.s16 (.s16 .g4)) ?_)))))))
 refine Y.cl rfl rfl Tryz.func25 rfl rfl (aM8 (.t .g6) (.t .g5) (.t .g3) (.t .g1) (.t .z)) .n (fun _ _ hs tr=>aN1 (aM f (tr.ctx aa) (tr.ctx ab)) _ _ (tr.ctx a2) (tr.ctx h2)) ?_
 rintro _ _ ⟨ix,iy,rfl,rfl⟩
 refine Y.m (.c (.c .n)) ?_
 refine Y.h (WS.a .z) ?_
 rintro⟨hh,au,rfl,e3,e4,e5⟩
 refine Y.h (WS.a .g1) ?_
 rintro⟨a8,a9,rfl,e7,e8,e9⟩
 refine Y.es (aD rfl) rfl (esW rfl (.t .g14) (.t .z) .g2 fC rfl rfl) ?_
 refine Y.nil (Y.ac (Y.g (Y.seq (Y.seq (Y.region (Y.fa rfl .g14 qO (Y.ld rfl cF .z .z (Y.ql rfl (cU rfl (.t .z) .c) ?_))))))))
 refine Y.nt ?_
 refine Y.ad (.t .z) (fun fb=> ?_) (fun fb=> ?_)
 refine Y.seq (Y.region (Y.ql rfl (qW rfl bI (.t (.s16 (.s16 .g6))) .g5 aW) (Y.fa rfl (.s16 .g2) qO (Y.ld rfl cF .z .z ?_))))
 refine Y.cl rfl rfl Tryz.func172 rfl rfl (aX (.t .g2) (.t .z)) .n (fun _ _ hs tr=>hU (aM f (tr.ctx aa) (tr.ctx ab)) _) ?_
 rintro _ _ ⟨iz,i0,i1,i2,rfl,rfl⟩
 refine Y.m (.c (.c (.c (.c .n)))) ?_
 refine Y.h (WS.a .z) ?_
 rintro⟨hi,hk,rfl,fc,fd,fe⟩
 refine Y.h (WS.a .g1) ?_
 rintro⟨hl,hm,rfl,ff,fg,fh⟩
 refine Y.h (WS.a .g2) ?_
 rintro⟨hn,ho,rfl,fi,fj,fk⟩
 refine Y.h (WS.a .g3) ?_
 rintro⟨hp,hq,rfl,fl,fm,fn⟩
 refine Y.es (aD rfl) rfl (esW rfl (.t (.s16 (.s16 .g8))) (.t .z) .g7 bG rfl rfl) ?_
 refine Y.nt (Y.ret (Y.r ?_))
 refine Y.i (dD rfl (.s16 (.s16 .g8)) dS .z bG) (.c .g1 (.c .g1 (.c .g1 (.c .g1 .n)))) ?_
 exact⟨(⟨0,((hY f ((dA f c.path).1) c.frm c.data b).code),0,[],[],(⟨f.inodes,f.data⟩:DFs)⟩:eJ),(by first | exact hj | assumption),_,_,_,_,rfl,rfl⟩
 obtain⟨hJw,hJl⟩:=aIt hj fb
 refine Y.skip (Y.g (Y.seq ?_))
 refine Y.w (.c .g1 .n) eC ?_
 rintro b2 ah
 obtain⟨al,af⟩:=aI (xs:=(hY f ((dA f c.path).1) c.frm c.data b).fs.inodes) (j:=Int.toNat ((dA f c.path).1)) (by first | omega |(simp <;> omega))
 obtain⟨i3,av⟩:=aI (xs:=b2) (j:=Int.toNat ((dA f c.path).1)) (by rw [ah];exact(List.getElem?_eq_some_iff.1 af).1)
 refine Y.an .g1 (cW af av) ?_
 refine Y.w (.c .z .n) dR ?_
 rintro⟨i4,i5⟩ rfl
 refine Y.h (WS.a .z) ?_
 rintro⟨b3,b4,rfl,fo,fp,fq⟩
 refine Y.h (WS.a .g1) ?_
 rintro⟨b5,b6,rfl,fr,ft,fu⟩
 have hr:=cH (i:=((dA f c.path).1)) af (by omega)
 have hu:=cI (a:=((dA f c.path).1)) af (by omega)
 have hv:=dC (a:=((dA f c.path).1)) af (by omega)
 refine Y.dr .z 10 gG ?_
 refine Y.sc (qs 0 10++ [(10,false)]) (by kernel_rfl) ?_
 refine Y.df rfl rfl .z (.s16 .g1) mK (Y.dk rfl rfl .z (qF (k:=1) rfl (.t .z) (fun _=>aO _ _) rfl) (Y.dl rfl rfl .z bK .z .g5 (Y.dm rfl rfl .z (.s16 .g16) ?_)))
 refine Y.h (WS.i .g4 (by first | omega |(simp <;> omega) |(simp only [List.length_append,List.length_cons,List.length_nil,List.length_set] at *;omega))) ?_
 rintro⟨aw,rfl⟩
 refine Y.dk rfl rfl .z (aC (j:=Int.toNat ((dA f c.path).1)) rfl cE aU (.t .g1) (.t .z) (by omega) (by first | omega |(simp <;> omega))) ?_
 refine Y.df rfl rfl .z .z hX (Y.dk rfl rfl .z (aL rfl cF (.t .z) (WS.h .g4 av rfl)) (Y.df rfl rfl .z (.s16 .g8) mK (Y.dk rfl rfl .z (lY (cs:= [.slice (some aw) ((hY f ((dA f c.path).1) c.frm c.data b).fs.inodes).length au,.slice a8 ((hY f ((dA f c.path).1) c.frm c.data b).fs.data).length a9]) rfl bI aW (.t .z) (WS.u .g5 (rE rfl))) (Y.dk rfl rfl .z (aZ (cs:= [.int .i64 0,.int .i64 0,.int .i64 al.size,.slice none 0 0,.slice none 0 0,.slice (some aw) ((hY f ((dA f c.path).1) c.frm c.data b).fs.inodes).length au,.slice a8 ((hY f ((dA f c.path).1) c.frm c.data b).fs.data).length a9]) rfl mO (pv2 (.t .g2) (.t .z)) rfl) ?_))))
 refine Y.es (aE rfl rfl) rfl (esW rfl (.t (.s16 (.s16 .g14))) (.t .z) .g7 bG rfl rfl) ?_
 refine Y.sl rfl ?_
 refine Y.aa ?_
 refine Y.ag (by kernel_rfl) ?_
 refine Y.g (Y.ret ?_)
 refine Y.v (c:=aG bD al [.int .i64 al.kind,.int .i64 al.links,.int .i64 al.size,.slice b3 al.blocks.length b4,.slice b5 al.ents.length b6]) (.c .g1 (.c .g1 .n)) (fun w S h=>bF al h) ?_
 refine Y.v (c:=aG aP ((hY f ((dA f c.path).1) c.frm c.data b).fs.inodes) [.slice (some aw) ((hY f ((dA f c.path).1) c.frm c.data b).fs.inodes).length au]) (.c .g4 (.c .z (.c .g1 (.c .g1 .n)))) (bU (K:=bD) ah af av) ?_
 refine Y.add (c:=aG cX [] [.slice none 0 0]) (fun w S=>aN w S none) ?_
 refine Y.add (c:=aG fB [] [.slice none 0 0]) (fun w S=>aN w S none) ?_
 refine Y.i (dD rfl (.s16 (.s16 .g14)) dS .g3 bG) (.c .g1 (.c .z (.c .z (.c .g2 .n)))) ?_
 exact⟨(⟨0,0,al.size,[],[],(⟨(hY f ((dA f c.path).1) c.frm c.data b).fs.inodes,(hY f ((dA f c.path).1) c.frm c.data b).fs.data⟩:DFs)⟩:eJ),(by first | exact hj | assumption),_,_,_,_,rfl,rfl⟩
 refine Y.region (Y.ql rfl (qW rfl bI (.t (.s16 .g11)) .g3 aW) (Y.mv rfl (.s16 .g3) (Y.fa rfl (.s16 .g12) aB6 (Y.ld rfl cF .z .g2 (Y.mv rfl (.s16 (.s16 .g2)) ?_)))))
 refine Y.cl rfl rfl Tryz.func28 rfl rfl (oT (.t .g4) (.t .g3) (.t .g1) (.t .z)) .n (fun _ _ hs tr=>aN8 (aM f (tr.ctx aa) (tr.ctx ab)) _ _ (tr.ctx h2)) ?_
 rintro _ _ ⟨hw,hx,rfl,rfl⟩
 refine Y.m (.c (.c .n)) ?_
 refine Y.h (WS.a .z) ?_
 rintro⟨fv,ai,rfl,b7,b8,ca⟩
 refine Y.h (WS.a .g1) ?_
 rintro⟨am,an,rfl,cb,cc,cd⟩
 refine Y.es (aD rfl) rfl (esW rfl (.t .g12) (.t .z) .g2 fC rfl rfl) ?_
 refine Y.nil (Y.ac (Y.g (Y.seq (Y.seq (Y.region (Y.fa rfl .g12 qO (Y.ld rfl cF .z .z (Y.ql rfl (cU rfl (.t .z) .c) ?_))))))))
 refine Y.nt ?_
 refine Y.ad (.t .z) (fun ba=> ?_) (fun ba=> ?_)
 refine Y.seq (Y.region (Y.ql rfl (qW rfl bI (.t (.s16 (.s16 .g4))) .g5 aW) (Y.fa rfl .g16 qO (Y.ld rfl cF .z .z ?_))))
 refine Y.cl rfl rfl Tryz.func172 rfl rfl (aX (.t .g2) (.t .z)) .n (fun _ _ hs tr=>hU (aM f (tr.ctx aa) (tr.ctx ab)) _) ?_
 rintro _ _ ⟨hy,hz,h3,h4,rfl,rfl⟩
 refine Y.m (.c (.c (.c (.c .n)))) ?_
 refine Y.h (WS.a .z) ?_
 rintro⟨fw,fx,rfl,ce,cf,cg⟩
 refine Y.h (WS.a .g1) ?_
 rintro⟨fy,fz,rfl,ch,ci,cj⟩
 refine Y.h (WS.a .g2) ?_
 rintro⟨f0,f1,rfl,ck,cm,cn⟩
 refine Y.h (WS.a .g3) ?_
 rintro⟨f2,f3,rfl,co,cp,cq⟩
 refine Y.es (aD rfl) rfl (esW rfl (.t (.s16 (.s16 .g6))) (.t .z) .g7 bG rfl rfl) ?_
 refine Y.nt (Y.ret (Y.r ?_))
 refine Y.i (dD rfl (.s16 (.s16 .g6)) dS .z bG) (.c .g1 (.c .g1 (.c .g1 (.c .g1 .n)))) ?_
 exact⟨(⟨0,((pT f ((dA f c.path).1) c.size b).code),0,[],[],(⟨f.inodes,f.data⟩:DFs)⟩:eJ),(by first | exact hj | assumption),_,_,_,_,rfl,rfl⟩
 obtain⟨hJw,hJl⟩:=aMy hj ba
 refine Y.skip (Y.g (Y.seq ?_))
 refine Y.w (.c .g1 .n) eC ?_
 rintro bb ae
 obtain⟨ad,ac⟩:=aI (xs:=(pT f ((dA f c.path).1) c.size b).fs.inodes) (j:=Int.toNat ((dA f c.path).1)) (by first | omega |(simp <;> omega))
 obtain⟨h5,aj⟩:=aI (xs:=bb) (j:=Int.toNat ((dA f c.path).1)) (by rw [ae];exact(List.getElem?_eq_some_iff.1 ac).1)
 refine Y.an .g1 (cW ac aj) ?_
 refine Y.w (.c .z .n) dR ?_
 rintro⟨h6,h7⟩ rfl
 refine Y.h (WS.a .z) ?_
 rintro⟨bc,bd,rfl,cr,ct,cu⟩
 refine Y.h (WS.a .g1) ?_
 rintro⟨be,bf,rfl,cv,cw,cx⟩
 have f4:=cH (i:=((dA f c.path).1)) ac (by omega)
 have f5:=cI (a:=((dA f c.path).1)) ac (by omega)
 have f6:=dC (a:=((dA f c.path).1)) ac (by omega)
 refine Y.dr .z 10 gG ?_
 refine Y.sc (qs 0 10++ [(10,false)]) (by kernel_rfl) ?_
 refine Y.df rfl rfl .z .g15 mK (Y.dk rfl rfl .z (qF (k:=1) rfl (.t .z) (fun _=>aO _ _) rfl) (Y.dl rfl rfl .z bK .z .g5 (Y.dm rfl rfl .z (.s16 .g14) ?_)))
 refine Y.h (WS.i .g4 (by first | omega |(simp <;> omega) |(simp only [List.length_append,List.length_cons,List.length_nil,List.length_set] at *;omega))) ?_
 rintro⟨ak,rfl⟩
 refine Y.dk rfl rfl .z (aC (j:=Int.toNat ((dA f c.path).1)) rfl cE aU (.t .g1) (.t .z) (by omega) (by first | omega |(simp <;> omega))) ?_
 refine Y.df rfl rfl .z .z hX (Y.dk rfl rfl .z (aL rfl cF (.t .z) (WS.h .g4 aj rfl)) (Y.df rfl rfl .z (.s16 .g6) mK (Y.dk rfl rfl .z (lY (cs:= [.slice (some ak) ((pT f ((dA f c.path).1) c.size b).fs.inodes).length ai,.slice am ((pT f ((dA f c.path).1) c.size b).fs.data).length an]) rfl bI aW (.t .z) (WS.u .g5 (rE rfl))) (Y.dk rfl rfl .z (aZ (cs:= [.int .i64 0,.int .i64 0,.int .i64 ad.size,.slice none 0 0,.slice none 0 0,.slice (some ak) ((pT f ((dA f c.path).1) c.size b).fs.inodes).length ai,.slice am ((pT f ((dA f c.path).1) c.size b).fs.data).length an]) rfl mO (pv2 (.t .g2) (.t .z)) rfl) ?_))))
 refine Y.es (aE rfl rfl) rfl (esW rfl (.t (.s16 (.s16 .g12))) (.t .z) .g7 bG rfl rfl) ?_
 refine Y.sl rfl ?_
 refine Y.aa ?_
 refine Y.ag (by kernel_rfl) ?_
 refine Y.g (Y.ret ?_)
 refine Y.v (c:=aG bD ad [.int .i64 ad.kind,.int .i64 ad.links,.int .i64 ad.size,.slice bc ad.blocks.length bd,.slice be ad.ents.length bf]) (.c .g1 (.c .g1 .n)) (fun w S h=>bF ad h) ?_
 refine Y.v (c:=aG aP ((pT f ((dA f c.path).1) c.size b).fs.inodes) [.slice (some ak) ((pT f ((dA f c.path).1) c.size b).fs.inodes).length ai]) (.c .g4 (.c .z (.c .g1 (.c .g1 .n)))) (bU (K:=bD) ae ac aj) ?_
 refine Y.add (c:=aG cX [] [.slice none 0 0]) (fun w S=>aN w S none) ?_
 refine Y.add (c:=aG fB [] [.slice none 0 0]) (fun w S=>aN w S none) ?_
 refine Y.i (dD rfl (.s16 (.s16 .g12)) dS .g3 bG) (.c .g1 (.c .z (.c .z (.c .g2 .n)))) ?_
 exact⟨(⟨0,0,ad.size,[],[],(⟨(pT f ((dA f c.path).1) c.size b).fs.inodes,(pT f ((dA f c.path).1) c.size b).fs.data⟩:DFs)⟩:eJ),(by first | exact hj | assumption),_,_,_,_,rfl,rfl⟩

end Go.Proofs.YtmejbfmhaoilmaaGreat

/- What is proved: contracts of functions, one a function. No condition. -/
import Derived.Test.YtmejbfmhaoilmaaGreatDoorBase1
import Derived.Test.YtmejbfmhaoilmaaGreatDoorPart3
import Derived.Test.YtmejbfmhaoilmaaGreatDoorW81
namespace Go.Proofs.YtmejbfmhaoilmaaGreatDoor
open Go Go.RowKit
set_option linter.unusedVariables false
set_option linter.unusedSimpArgs false
set_option maxHeartbeats 1000000
set_option maxRecDepth 20000
theorem aLa {w0:World}{S0:Bs}{f:DFs}{cy:List Value} (h0:dV.ro w0 (FF w0 S0) f cy) {c:oD}{cz:List Value} (h1:zJ.ro w0 (FF w0 S0) c cz) {b:(List Int)}{v2:Value} (h2:bK.ro w0 (FF w0 S0) b [v2]) (hj:Jf f):
    Calls Tryz.prog 79 #[.agg cy.toArray,.agg cz.toArray,v2] w0 (aI w0 S0 (fun r l=>∃x:dY,Jf x.fs∧wB x r l)):=by
 obtain⟨f7,f8,rfl,aa,ab⟩:=bZ h0
 obtain⟨ax,ay,rfl,c0,c1,c3,az⟩:=aD aa
 obtain⟨a0,a1,rfl,c4,c5,c6,c7⟩:=aD ab
 obtain⟨f9,rfl,a2,ga,gb⟩:=tV h1
 obtain⟨a3,a4,rfl,c8,c9,da,db⟩:=aD a2
 obtain⟨A2,c2,rfl,h8,h9,ia,ib⟩:=aD h2
 have ht:J0 f:=hj.toJ0
 have ic:=hj.n.2
 have id:=hj.n.1
 refine Y.enter (N:=91) Tryz.func79 rfl rfl (by simp) [(0,.agg #[.slice ax f.inodes.length ay,.slice a0 f.data.length a1]),(1,.agg #[.int .i64 c.kind,.string c.path,.string c.to,.int .i64 c.frm,.int .i64 c.size,.slice a3 c.data.length a4]),(2,.slice A2 b.length c2)] (by simp) (l0:= []) trivial ?_
 refine Y.seq (Y.region ?_)
 refine Y.el rfl (fQ (cs:= [.slice ax f.inodes.length ay,.slice a0 f.data.length a1]) (n:=2) rfl (.t .z) rfl rfl) ?_
 rintro _ _ ⟨g5,rfl,rfl⟩
 refine Y.el rfl (fQ (cs:= [.int .i64 c.kind,.string c.path,.string c.to,.int .i64 c.frm,.int .i64 c.size,.slice a3 c.data.length a4]) (n:=6) rfl (.t .g2) rfl rfl) ?_
 rintro _ _ ⟨g6,rfl,rfl⟩
 refine Y.el rfl (bB rfl aAv rfl rfl) ?_
 rintro _ _ ⟨g7,rfl,rfl⟩
 refine Y.nt (Y.seq (Y.region (Y.fa rfl .g1 oO (Y.ld rfl iH .z .g1 ?_))))
 refine Y.cl rfl rfl Tryz.func106 rfl rfl (aS (.t .g4) (.t .z)) .n (fun _ _ hs tr=>aD6 (tr.ptr .g2 (aJ f (tr.ctx aa) (tr.ctx ab))) _ (by first | assumption | omega) (by assumption)) ?_
 rintro _ _ ⟨rfl,rfl⟩
 refine Y.m .n ?_
 have dc:=pR ht c.path
 refine Y.mv rfl .z (Y.ql rfl (bF (v:= .int .i64 ((cC f c.path).1)) rfl (.t .z) rfl) (Y.ql rfl (bF (v:= .int .i64 ((cC f c.path).2)) rfl (.t .g1) rfl) (Y.as rfl .g1 (Y.as rfl .g1 (Y.nt (Y.seq (Y.seq ?_)))))))
 refine Y.region (Y.mv rfl .z (Y.ql rfl (bW rfl (.t .z) .c) (Y.nt ?_)))
 refine Y.ac (.t .z) (fun b9=> ?_) (fun b9=> ?_)
 refine Y.seq (Y.region (Y.ql rfl (qW rfl bX (.t .g12) .g2 bA) (Y.mv rfl .g3 ?_)))
 refine Y.cl rfl rfl Tryz.func101 rfl rfl (aS (.t .g1) (.t .z)) .n (fun _ _ hs tr=>gP (aJ f (tr.ctx aa) (tr.ctx ab)) _) ?_
 rintro _ _ ⟨ie,ig,ih,ii,rfl,rfl⟩
 refine Y.m (.c (.c (.c (.c .n)))) ?_
 refine Y.h (WS.a .z) ?_
 rintro⟨gc,gd,rfl,dd,dg,dh⟩
 refine Y.h (WS.a .g1) ?_
 rintro⟨ge,gf,rfl,di,dj,dp⟩
 refine Y.h (WS.a .g2) ?_
 rintro⟨gg,gh,rfl,ds,dt,du⟩
 refine Y.h (WS.a .g3) ?_
 rintro⟨gi,gj,rfl,dv,dw,dx⟩
 refine Y.es (aE rfl) rfl (esW rfl (.t .g13) (.t .z) .g4 cA rfl rfl) ?_
 refine Y.nt (Y.ret (Y.j ?_))
 refine Y.i (cU rfl .g13 eK .z cA) (.c .g1 (.c .g1 (.c .g1 (.c .g1 .n)))) ?_
 exact⟨(⟨0,((cC f c.path).2),0,[],[],(⟨f.inodes,f.data⟩:DFs)⟩:dY),(by first | exact hj | assumption),_,_,_,_,rfl,rfl⟩
 refine Y.skip (Y.g (Y.seq (Y.seq (Y.region (Y.fa rfl .g12 aP (Y.ld rfl bR .z .g2 (Y.mv rfl .g5 ?_)))))))
 obtain⟨gk,ao,ap⟩:=az (by omega)
 subst ao
 obtain⟨ij,ag⟩:=aK (xs:=f.inodes) (j:=Int.toNat ((cC f c.path).1)) (by first | omega |(simp <;> omega))
 obtain⟨dy,a5,a6,a7⟩:=ap.elem ag
 obtain⟨bp,bq,rfl,aq,ar⟩:=bY a5
 obtain⟨br,bs,rfl,bg,bh,bi,bj⟩:=aD aq
 obtain⟨bt,bu,rfl,bk,bm,bn,bo⟩:=aD ar
 have gl:=cO (i:=((cC f c.path).1)) ag (by omega)
 have gm:=cP (a:=((cC f c.path).1)) ag (by omega)
 have gn:=dL (a:=((cC f c.path).1)) ag (by omega)
 have dz:=ht.get ag
 refine Y.ql rfl (aB (j:=Int.toNat ((cC f c.path).1)) rfl cQ aT (.t .g1) (.t .z) (by omega) (by first | omega |(simp <;> omega))) ?_
 refine Y.fa rfl .z bS (Y.le rfl bP .z a6 a7 (Y.ql rfl (bU rfl (.t .z) .c) (Y.nt ?_)))
 refine Y.u (.t .z) (fun go=> ?_) (fun go=> ?_)
 refine Y.seq (Y.region (Y.ql rfl (qW rfl bX (.t (.s16 .g3)) .g2 bA) ?_))
 refine Y.cl rfl rfl Tryz.func101 rfl rfl (aS (.t .z) .c) .n (fun _ _ hs tr=>gP (aJ f (tr.ctx aa) (tr.ctx ab)) _) ?_
 rintro _ _ ⟨ik,il,im,io,rfl,rfl⟩
 refine Y.m (.c (.c (.c (.c .n)))) ?_
 refine Y.h (WS.a .z) ?_
 rintro⟨gp,gq,rfl,d0,d1,d2⟩
 refine Y.h (WS.a .g1) ?_
 rintro⟨gr,gs,rfl,d3,d4,d5⟩
 refine Y.h (WS.a .g2) ?_
 rintro⟨gt,gu,rfl,d6,d7,d8⟩
 refine Y.h (WS.a .g3) ?_
 rintro⟨gv,gw,rfl,d9,ea,eb⟩
 refine Y.es (aE rfl) rfl (esW rfl (.t (.s16 .g3)) (.t .z) .g4 cA rfl rfl) ?_
 refine Y.nt (Y.ret (Y.j ?_))
 refine Y.i (cU rfl (.s16 .g3) eK .z cA) (.c .g1 (.c .g1 (.c .g1 (.c .g1 .n)))) ?_
 exact⟨(⟨0,9,0,[],[],(⟨f.inodes,f.data⟩:DFs)⟩:dY),(by first | exact hj | assumption),_,_,_,_,rfl,rfl⟩
 refine Y.skip (Y.g (Y.seq (Y.region (Y.ql rfl (aW (cs:= [.int .i64 0,.slice none 0 0,.slice none 0 0]) rfl oQ pv0 rfl) ?_))))
 refine Y.el rfl (bB rfl aEn rfl rfl) ?_
 rintro _ _ ⟨g40,rfl,rfl⟩
 refine Y.es (aE rfl) rfl (esW rfl (.t .z) (.t .g1) .z gN rfl rfl) ?_
 refine Y.nt (Y.seq (Y.seq (Y.region (Y.fa rfl (.s16 .g4) rR (Y.ld rfl bP .z .g2 (Y.nt ?_))))))
 refine Y.block (Y.seq (Y.region (Y.ql rfl (bU rfl (.t .z) .c) (Y.as rfl .z (Y.nt ?_)))))
 refine Y.u (.t .z) (fun gx=> ?_) (fun gx=> ?_)
 refine Y.seq (Y.region (Y.ql rfl (qW rfl bX (.t (.s16 .g9)) .g3 bA) (Y.mv rfl (.s16 .g1) (Y.fa rfl (.s16 .g10) aEa (Y.ld rfl bP .z .g2 (Y.fa rfl (.s16 .g12) aEx (Y.ld rfl bP .z .g2 ?_)))))))
 refine Y.cl rfl rfl Tryz.func107 rfl rfl (pD (.t .g5) (.t .g4) (.t .g2) (.t .z)) .n (fun _ _ hs tr=>aLx (aJ f (tr.ctx aa) (tr.ctx ab)) _ _ _) ?_
 rintro _ _ ⟨ip,rfl,rfl⟩
 refine Y.m (.c .n) ?_
 refine Y.h (WS.a .z) ?_
 rintro⟨bv,bw,rfl,ec,ed,ee⟩
 refine Y.el rfl (bB rfl aEl rfl rfl) ?_
 rintro _ _ ⟨g45,rfl,rfl⟩
 refine Y.es (aE rfl) rfl (esW rfl (.t .z) (.t .g1) .z iE rfl rfl) ?_
 refine Y.nt (Y.seq (Y.seq (Y.region (Y.fa rfl .z xB (Y.ld rfl bP .z .z (Y.ql rfl (bW rfl (.t .z) .c) (Y.nil ?_)))))))
 refine Y.g ?_
 refine Y.ac (.t .z) (fun gy=> ?_) (fun gy=> ?_)
 refine Y.seq (Y.region (Y.ql rfl (qW rfl bX (.t (.s16 (.s16 .g4))) .g5 bA) (Y.fa rfl .g4 xB (Y.ld rfl bP .z .z ?_))))
 refine Y.cl rfl rfl Tryz.func101 rfl rfl (aS (.t .g2) (.t .z)) .n (fun _ _ hs tr=>gP (aJ f (tr.ctx aa) (tr.ctx ab)) _) ?_
 rintro _ _ ⟨iq,ir,it,iu,rfl,rfl⟩
 refine Y.m (.c (.c (.c (.c .n)))) ?_
 refine Y.h (WS.a .z) ?_
 rintro⟨gz,g0,rfl,ef,eg,eh⟩
 refine Y.h (WS.a .g1) ?_
 rintro⟨ha,hb,rfl,ei,ej,ek⟩
 refine Y.h (WS.a .g2) ?_
 rintro⟨hc,hd,rfl,em,en,eo⟩
 refine Y.h (WS.a .g3) ?_
 rintro⟨he,hf,rfl,ep,et,eu⟩
 refine Y.es (aE rfl) rfl (esW rfl (.t (.s16 (.s16 .g6))) (.t .z) .g7 cA rfl rfl) ?_
 refine Y.nt (Y.ret (Y.j (Y.v (Y.j ?_))))
 refine Y.i (cU rfl (.s16 (.s16 .g6)) eK .z cA) (.c .g1 (.c .g1 (.c .g1 (.c .g1 .n)))) ?_
 exact⟨(⟨0,((qA f ((cC f c.path).1) c.frm c.size).code),0,[],[],(⟨f.inodes,f.data⟩:DFs)⟩:dY),(by first | exact hj | assumption),_,_,_,_,rfl,rfl⟩
 refine Y.skip (Y.g (Y.seq ?_))
 refine Y.sel (.c .g1 (.c .z (.c .z (.c .z (.c .z (.c .z .n)))))) ?_
 refine Y.dr .g1 8 fR ?_
 refine Y.sc (qs 0 6++ [(6,false),(7,true),(8,false)]) (by kernel_rfl) ?_
 refine Y.df rfl rfl .g1 .g3 tN (Y.dl rfl rfl .g1 oG .z .z (Y.dk rfl rfl .g1 (bD rfl iJ (.t .z)) (Y.df rfl rfl .g1 .g6 tN (Y.dl rfl rfl .g1 oG .z .z (Y.dk rfl rfl .g1 (qW rfl bX (.t (.s16 (.s16 .g9))) .g4 bA) ?_)))))
 refine Y.call (aC rfl rfl) rfl (by decide) rfl (bE rfl Tryz.func104 rfl rfl (bG (.t .z))) .n (fun _ _ hs tr=>qC (aJ f (tr.ctx aa) (tr.ctx ab))) ?_
 rintro _ _ ⟨iv,iw,rfl,rfl⟩
 refine Y.m (.c (.c .n)) ?_
 refine Y.h (WS.a .z) ?_
 rintro⟨bx,bz,rfl,ev,ew,ey⟩
 refine Y.h (WS.a .g1) ?_
 rintro⟨b0,b1,rfl,ez,e0,e1⟩
 refine Y.sk .g3 ?_
 refine Y.dk rfl rfl .g3 (aW (cs:= [.int .i64 0,.int .i64 0,.int .i64 (((qA f ((cC f c.path).1) c.frm c.size).bytes).length:Int),.slice bv ((qA f ((cC f c.path).1) c.frm c.size).bytes).length bw,.slice none 0 0,.slice bx f.inodes.length bz,.slice b0 f.data.length b1]) rfl pB (pv3 (.t .g4) (.t .g2) (.t .z)) rfl) ?_
 refine Y.es (aC rfl rfl) rfl (esW rfl (.t (.s16 (.s16 .g10))) (.t .z) .g5 cA rfl rfl) ?_
 refine Y.sl rfl ?_
 refine Y.w ?_
 refine Y.af (by kernel_rfl) ?_
 refine Y.g (Y.ret (Y.v (Y.j ?_)))
 refine Y.add (c:=aH cT [] [.slice none 0 0]) (fun w S=>aL w S none) ?_
 refine Y.i (cU rfl (.s16 (.s16 .g10)) eK .g1 cA) (.c .g4 (.c .z (.c .g1 (.c .g1 .n)))) ?_
 exact⟨(⟨0,0,(((qA f ((cC f c.path).1) c.frm c.size).bytes).length:Int),(qA f ((cC f c.path).1) c.frm c.size).bytes,[],(⟨f.inodes,f.data⟩:DFs)⟩:dY),(by first | exact hj | assumption),_,_,_,_,rfl,rfl⟩
 refine Y.seq (Y.region (Y.ql rfl (bU rfl (.t .g2) .c) (Y.as rfl .z (Y.nt ?_))))
 refine Y.u (.t .z) (fun hg=> ?_) (fun hg=> ?_)
 refine Y.region (Y.ql rfl (qW rfl bX (.t (.s16 .g11)) .g3 bA) (Y.mv rfl (.s16 .g3) (Y.fa rfl (.s16 .g12) aEa (Y.ld rfl bP .z .g2 (Y.fa rfl (.s16 .g14) aJm (Y.ld rfl oG .z .g2 (Y.mv rfl (.s16 (.s16 .g4)) ?_)))))))
 refine Y.cl rfl rfl Tryz.func108 rfl rfl (aMo (.t .g6) (.t .g5) (.t .g3) (.t .g1) (.t .z)) .n (fun _ _ hs tr=>aNb (aJ f (tr.ctx aa) (tr.ctx ab)) _ _ (tr.ctx a2) (tr.ctx h2)) ?_
 rintro _ _ ⟨ix,iy,rfl,rfl⟩
 refine Y.m (.c (.c .n)) ?_
 refine Y.h (WS.a .z) ?_
 rintro⟨hh,au,rfl,e2,e3,e4⟩
 refine Y.h (WS.a .g1) ?_
 rintro⟨a8,a9,rfl,e5,e7,e8⟩
 refine Y.es (aE rfl) rfl (esW rfl (.t .g14) (.t .z) .g2 gN rfl rfl) ?_
 refine Y.nil (Y.ab (Y.g (Y.seq (Y.seq (Y.region (Y.fa rfl .g14 tB (Y.ld rfl bP .z .z (Y.ql rfl (bW rfl (.t .z) .c) ?_))))))))
 refine Y.nt ?_
 refine Y.ac (.t .z) (fun e9=> ?_) (fun e9=> ?_)
 refine Y.seq (Y.region (Y.ql rfl (qW rfl bX (.t (.s16 (.s16 .g6))) .g5 bA) (Y.fa rfl (.s16 .g2) tB (Y.ld rfl bP .z .z ?_))))
 refine Y.cl rfl rfl Tryz.func101 rfl rfl (aS (.t .g2) (.t .z)) .n (fun _ _ hs tr=>gP (aJ f (tr.ctx aa) (tr.ctx ab)) _) ?_
 rintro _ _ ⟨iz,i0,i1,i2,rfl,rfl⟩
 refine Y.m (.c (.c (.c (.c .n)))) ?_
 refine Y.h (WS.a .z) ?_
 rintro⟨hi,hk,rfl,fb,fc,fd⟩
 refine Y.h (WS.a .g1) ?_
 rintro⟨hl,hm,rfl,fe,ff,fg⟩
 refine Y.h (WS.a .g2) ?_
 rintro⟨hn,ho,rfl,fh,fi,fj⟩
 refine Y.h (WS.a .g3) ?_
 rintro⟨hp,hq,rfl,fk,fl,fm⟩
 refine Y.es (aE rfl) rfl (esW rfl (.t (.s16 (.s16 .g8))) (.t .z) .g7 cA rfl rfl) ?_
 refine Y.nt (Y.ret (Y.j ?_))
 refine Y.i (cU rfl (.s16 (.s16 .g8)) eK .z cA) (.c .g1 (.c .g1 (.c .g1 (.c .g1 .n)))) ?_
 exact⟨(⟨0,((gT f ((cC f c.path).1) c.frm c.data b).code),0,[],[],(⟨f.inodes,f.data⟩:DFs)⟩:dY),(by first | exact hj | assumption),_,_,_,_,rfl,rfl⟩
 obtain⟨hJw,hJl⟩:=aI8 hj e9
 refine Y.skip (Y.g (Y.seq ?_))
 refine Y.aa (.c .g1 .n) fP ?_
 rintro b2 ah
 obtain⟨al,af⟩:=aK (xs:=(gT f ((cC f c.path).1) c.frm c.data b).fs.inodes) (j:=Int.toNat ((cC f c.path).1)) (by first | omega |(simp <;> omega))
 obtain⟨i3,av⟩:=aK (xs:=b2) (j:=Int.toNat ((cC f c.path).1)) (by rw [ah];exact(List.getElem?_eq_some_iff.1 af).1)
 refine Y.au .g1 (eJ af av) ?_
 refine Y.aa (.c .z .n) fC ?_
 rintro⟨i4,i5⟩ rfl
 refine Y.h (WS.a .z) ?_
 rintro⟨b3,b4,rfl,fn,fo,fp⟩
 refine Y.h (WS.a .g1) ?_
 rintro⟨b5,b6,rfl,fq,fr,ft⟩
 have hr:=cO (i:=((cC f c.path).1)) af (by omega)
 have hu:=cP (a:=((cC f c.path).1)) af (by omega)
 have hv:=dL (a:=((cC f c.path).1)) af (by omega)
 refine Y.dr .z 10 fR ?_
 refine Y.sc (qs 0 10++ [(10,false)]) (by kernel_rfl) ?_
 refine Y.df rfl rfl .z (.s16 .g1) uM (Y.dk rfl rfl .z (tY (k:=1) rfl (.t .z) (fun _=>aP _ _) rfl) (Y.dl rfl rfl .z bR .z .g5 (Y.dm rfl rfl .z (.s16 .g16) ?_)))
 refine Y.h (WS.h .g4 (by first | omega |(simp <;> omega) |(simp only [List.length_append,List.length_cons,List.length_nil,List.length_set] at *;omega))) ?_
 rintro⟨aw,rfl⟩
 refine Y.dk rfl rfl .z (aB (j:=Int.toNat ((cC f c.path).1)) rfl cQ aT (.t .g1) (.t .z) (by omega) (by first | omega |(simp <;> omega))) ?_
 refine Y.df rfl rfl .z .z gU (Y.dk rfl rfl .z (aM rfl bP (.t .z) (WS.j .g4 av rfl)) (Y.df rfl rfl .z (.s16 .g8) uM (Y.dk rfl rfl .z (tI (cs:= [.slice (some aw) ((gT f ((cC f c.path).1) c.frm c.data b).fs.inodes).length au,.slice a8 ((gT f ((cC f c.path).1) c.frm c.data b).fs.data).length a9]) rfl bX bA (.t .z) (WS.u .g5 (aGt rfl))) (Y.dk rfl rfl .z (aW (cs:= [.int .i64 0,.int .i64 0,.int .i64 al.size,.slice none 0 0,.slice none 0 0,.slice (some aw) ((gT f ((cC f c.path).1) c.frm c.data b).fs.inodes).length au,.slice a8 ((gT f ((cC f c.path).1) c.frm c.data b).fs.data).length a9]) rfl pB (pv2 (.t .g2) (.t .z)) rfl) ?_))))
 refine Y.es (aC rfl rfl) rfl (esW rfl (.t (.s16 (.s16 .g14))) (.t .z) .g7 cA rfl rfl) ?_
 refine Y.sl rfl ?_
 refine Y.w ?_
 refine Y.af (by kernel_rfl) ?_
 refine Y.g (Y.ret ?_)
 refine Y.ad (c:=aH cR al [.int .i64 al.kind,.int .i64 al.links,.int .i64 al.size,.slice b3 al.blocks.length b4,.slice b5 al.ents.length b6]) (.c .g1 (.c .g1 .n)) (fun w S h=>cZ al h) ?_
 refine Y.ad (c:=aH bJ ((gT f ((cC f c.path).1) c.frm c.data b).fs.inodes) [.slice (some aw) ((gT f ((cC f c.path).1) c.frm c.data b).fs.inodes).length au]) (.c .g4 (.c .z (.c .g1 (.c .g1 .n)))) (eM (K:=cR) ah af av) ?_
 refine Y.add (c:=aH dD [] [.slice none 0 0]) (fun w S=>aL w S none) ?_
 refine Y.add (c:=aH cT [] [.slice none 0 0]) (fun w S=>aL w S none) ?_
 refine Y.i (cU rfl (.s16 (.s16 .g14)) eK .g3 cA) (.c .g1 (.c .z (.c .z (.c .g2 .n)))) ?_
 exact⟨(⟨0,0,al.size,[],[],(⟨(gT f ((cC f c.path).1) c.frm c.data b).fs.inodes,(gT f ((cC f c.path).1) c.frm c.data b).fs.data⟩:DFs)⟩:dY),(by first | exact hj | assumption),_,_,_,_,rfl,rfl⟩
 refine Y.region (Y.ql rfl (qW rfl bX (.t (.s16 .g11)) .g3 bA) (Y.mv rfl (.s16 .g3) (Y.fa rfl (.s16 .g12) aEx (Y.ld rfl bP .z .g2 (Y.mv rfl (.s16 (.s16 .g2)) ?_)))))
 refine Y.cl rfl rfl Tryz.func109 rfl rfl (pD (.t .g4) (.t .g3) (.t .g1) (.t .z)) .n (fun _ _ hs tr=>aM1 (aJ f (tr.ctx aa) (tr.ctx ab)) _ _ (tr.ctx h2)) ?_
 rintro _ _ ⟨hw,hx,rfl,rfl⟩
 refine Y.m (.c (.c .n)) ?_
 refine Y.h (WS.a .z) ?_
 rintro⟨fu,ai,rfl,b7,b8,ca⟩
 refine Y.h (WS.a .g1) ?_
 rintro⟨am,an,rfl,cb,cc,cd⟩
 refine Y.es (aE rfl) rfl (esW rfl (.t .g12) (.t .z) .g2 gN rfl rfl) ?_
 refine Y.nil (Y.ab (Y.g (Y.seq (Y.seq (Y.region (Y.fa rfl .g12 tB (Y.ld rfl bP .z .z (Y.ql rfl (bW rfl (.t .z) .c) ?_))))))))
 refine Y.nt ?_
 refine Y.ac (.t .z) (fun ba=> ?_) (fun ba=> ?_)
 refine Y.seq (Y.region (Y.ql rfl (qW rfl bX (.t (.s16 (.s16 .g4))) .g5 bA) (Y.fa rfl .g16 tB (Y.ld rfl bP .z .z ?_))))
 refine Y.cl rfl rfl Tryz.func101 rfl rfl (aS (.t .g2) (.t .z)) .n (fun _ _ hs tr=>gP (aJ f (tr.ctx aa) (tr.ctx ab)) _) ?_
 rintro _ _ ⟨hy,hz,h3,h4,rfl,rfl⟩
 refine Y.m (.c (.c (.c (.c .n)))) ?_
 refine Y.h (WS.a .z) ?_
 rintro⟨fv,fw,rfl,ce,cf,cg⟩
 refine Y.h (WS.a .g1) ?_
 rintro⟨fx,fy,rfl,ch,ci,cj⟩
 refine Y.h (WS.a .g2) ?_
 rintro⟨f0,f1,rfl,ck,cm,cn⟩
 refine Y.h (WS.a .g3) ?_
 rintro⟨f2,f3,rfl,co,cp,cq⟩
 refine Y.es (aE rfl) rfl (esW rfl (.t (.s16 (.s16 .g6))) (.t .z) .g7 cA rfl rfl) ?_
 refine Y.nt (Y.ret (Y.j ?_))
 refine Y.i (cU rfl (.s16 (.s16 .g6)) eK .z cA) (.c .g1 (.c .g1 (.c .g1 (.c .g1 .n)))) ?_
 exact⟨(⟨0,((pC f ((cC f c.path).1) c.size b).code),0,[],[],(⟨f.inodes,f.data⟩:DFs)⟩:dY),(by first | exact hj | assumption),_,_,_,_,rfl,rfl⟩
 obtain⟨hJw,hJl⟩:=aM7 hj ba
 refine Y.skip (Y.g (Y.seq ?_))
 refine Y.aa (.c .g1 .n) fP ?_
 rintro bb ae
 obtain⟨ad,ac⟩:=aK (xs:=(pC f ((cC f c.path).1) c.size b).fs.inodes) (j:=Int.toNat ((cC f c.path).1)) (by first | omega |(simp <;> omega))
 obtain⟨h5,aj⟩:=aK (xs:=bb) (j:=Int.toNat ((cC f c.path).1)) (by rw [ae];exact(List.getElem?_eq_some_iff.1 ac).1)
 refine Y.au .g1 (eJ ac aj) ?_
 refine Y.aa (.c .z .n) fC ?_
 rintro⟨h6,h7⟩ rfl
 refine Y.h (WS.a .z) ?_
 rintro⟨bc,bd,rfl,cr,ct,cu⟩
 refine Y.h (WS.a .g1) ?_
 rintro⟨be,bf,rfl,cv,cw,cx⟩
 have f4:=cO (i:=((cC f c.path).1)) ac (by omega)
 have f5:=cP (a:=((cC f c.path).1)) ac (by omega)
 have f6:=dL (a:=((cC f c.path).1)) ac (by omega)
 refine Y.dr .z 10 fR ?_
 refine Y.sc (qs 0 10++ [(10,false)]) (by kernel_rfl) ?_
 refine Y.df rfl rfl .z .g15 uM (Y.dk rfl rfl .z (tY (k:=1) rfl (.t .z) (fun _=>aP _ _) rfl) (Y.dl rfl rfl .z bR .z .g5 (Y.dm rfl rfl .z (.s16 .g14) ?_)))
 refine Y.h (WS.h .g4 (by first | omega |(simp <;> omega) |(simp only [List.length_append,List.length_cons,List.length_nil,List.length_set] at *;omega))) ?_
 rintro⟨ak,rfl⟩
 refine Y.dk rfl rfl .z (aB (j:=Int.toNat ((cC f c.path).1)) rfl cQ aT (.t .g1) (.t .z) (by omega) (by first | omega |(simp <;> omega))) ?_
 refine Y.df rfl rfl .z .z gU (Y.dk rfl rfl .z (aM rfl bP (.t .z) (WS.j .g4 aj rfl)) (Y.df rfl rfl .z (.s16 .g6) uM (Y.dk rfl rfl .z (tI (cs:= [.slice (some ak) ((pC f ((cC f c.path).1) c.size b).fs.inodes).length ai,.slice am ((pC f ((cC f c.path).1) c.size b).fs.data).length an]) rfl bX bA (.t .z) (WS.u .g5 (aGt rfl))) (Y.dk rfl rfl .z (aW (cs:= [.int .i64 0,.int .i64 0,.int .i64 ad.size,.slice none 0 0,.slice none 0 0,.slice (some ak) ((pC f ((cC f c.path).1) c.size b).fs.inodes).length ai,.slice am ((pC f ((cC f c.path).1) c.size b).fs.data).length an]) rfl pB (pv2 (.t .g2) (.t .z)) rfl) ?_))))
 refine Y.es (aC rfl rfl) rfl (esW rfl (.t (.s16 (.s16 .g12))) (.t .z) .g7 cA rfl rfl) ?_
 refine Y.sl rfl ?_
 refine Y.w ?_
 refine Y.af (by kernel_rfl) ?_
 refine Y.g (Y.ret ?_)
 refine Y.ad (c:=aH cR ad [.int .i64 ad.kind,.int .i64 ad.links,.int .i64 ad.size,.slice bc ad.blocks.length bd,.slice be ad.ents.length bf]) (.c .g1 (.c .g1 .n)) (fun w S h=>cZ ad h) ?_
 refine Y.ad (c:=aH bJ ((pC f ((cC f c.path).1) c.size b).fs.inodes) [.slice (some ak) ((pC f ((cC f c.path).1) c.size b).fs.inodes).length ai]) (.c .g4 (.c .z (.c .g1 (.c .g1 .n)))) (eM (K:=cR) ae ac aj) ?_
 refine Y.add (c:=aH dD [] [.slice none 0 0]) (fun w S=>aL w S none) ?_
 refine Y.add (c:=aH cT [] [.slice none 0 0]) (fun w S=>aL w S none) ?_
 refine Y.i (cU rfl (.s16 (.s16 .g12)) eK .g3 cA) (.c .g1 (.c .z (.c .z (.c .g2 .n)))) ?_
 exact⟨(⟨0,0,ad.size,[],[],(⟨(pC f ((cC f c.path).1) c.size b).fs.inodes,(pC f ((cC f c.path).1) c.size b).fs.data⟩:DFs)⟩:dY),(by first | exact hj | assumption),_,_,_,_,rfl,rfl⟩

end Go.Proofs.YtmejbfmhaoilmaaGreatDoor

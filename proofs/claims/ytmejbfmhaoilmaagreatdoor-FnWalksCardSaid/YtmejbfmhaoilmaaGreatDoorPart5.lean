/- What is proved: contracts of functions, one a function. No condition. -/
import Derived.Test.YtmejbfmhaoilmaaGreatDoorBase1
import Derived.Test.YtmejbfmhaoilmaaGreatDoorW82
import Derived.Test.YtmejbfmhaoilmaaGreatDoorW83
import Derived.Test.YtmejbfmhaoilmaaGreatDoorW84
import Derived.Test.YtmejbfmhaoilmaaGreatDoorW3
import Derived.Test.YtmejbfmhaoilmaaGreatDoorBase2
import Derived.Test.YtmejbfmhaoilmaaGreatDoorPart3
namespace Go.Proofs.YtmejbfmhaoilmaaGreatDoor
open Go Go.RowKit
set_option linter.unusedVariables false
set_option linter.unusedSimpArgs false
set_option maxHeartbeats 1000000
set_option maxRecDepth 20000
theorem aDl {w0:World}{S0:Bs}{f:DFs}{cm:List Value} (h0:dV.ro w0 (FF w0 S0) f cm) {c:oD}{cn:List Value} (h1:zJ.ro w0 (FF w0 S0) c cn) {b:(List Int)}{v2:Value} (h2:bK.ro w0 (FF w0 S0) b [v2]) (hj:Jf f):
    Calls Tryz.prog 52 #[.agg cm.toArray,.agg cn.toArray,v2] w0 (aI w0 S0 (fun r l=>∃x:dY,Jf x.fs∧wB x r l)):=by
 obtain⟨gh,gi,rfl,aa,ab⟩:=bZ h0
 obtain⟨an,ao,rfl,co,cp,cq,cr⟩:=aD aa
 obtain⟨ap,aq,rfl,ct,cu,cv,cw⟩:=aD ab
 obtain⟨gj,rfl,af,gk,gl⟩:=tV h1
 obtain⟨ar,au,rfl,cx,cy,cz,c0⟩:=aD af
 obtain⟨A2,c2,rfl,i2,i3,i4,i5⟩:=aD h2
 refine Y.enter (N:=54) Tryz.func52 rfl rfl (by simp) [(0,.agg #[.slice an f.inodes.length ao,.slice ap f.data.length aq]),(1,.agg #[.int .i64 c.kind,.string c.path,.string c.to,.int .i64 c.frm,.int .i64 c.size,.slice ar c.data.length au]),(2,.slice A2 b.length c2)] (by simp) (l0:= []) trivial ?_
 refine Y.seq (Y.region ?_)
 refine Y.el rfl (fQ (cs:= [.slice an f.inodes.length ao,.slice ap f.data.length aq]) (n:=2) rfl (.t .z) rfl rfl) ?_
 rintro _ _ ⟨g5,rfl,rfl⟩
 refine Y.el rfl (fQ (cs:= [.int .i64 c.kind,.string c.path,.string c.to,.int .i64 c.frm,.int .i64 c.size,.slice ar c.data.length au]) (n:=6) rfl (.t .g2) rfl rfl) ?_
 rintro _ _ ⟨g6,rfl,rfl⟩
 refine Y.el rfl (bB rfl aAv rfl rfl) ?_
 rintro _ _ ⟨g7,rfl,rfl⟩
 refine Y.nt (Y.seq (Y.seq (Y.region (Y.fa rfl .g1 rR (Y.ld rfl bP .z .g1 (Y.nt ?_))))))
 refine Y.block (Y.seq (Y.region (Y.ql rfl (bU rfl (.t .z) .c) (Y.as rfl .z (Y.nt ?_)))))
 refine Y.u (.t .z) (fun b8=> ?_) (fun b8=> ?_)
 refine Y.seq (Y.region (Y.ql rfl (qW rfl bX (.t .g6) .g2 bA) (Y.fa rfl .g6 oO (Y.ld rfl iH .z .g1 ?_))))
 refine Y.cl rfl rfl Tryz.func78 rfl rfl (eL (.t .g2) (.t .z) .c) .n (fun _ _ hs tr=>aNa (aJ f (tr.ctx aa) (tr.ctx ab)) _ (by first | assumption | omega) _ (by assumption) (by omega)) ?_
 rintro _ _ ⟨am,c1,i6,i7,i8,i9,rfl,rfl⟩
 refine Y.m (.c (.c (.c (.c .n)))) ?_
 refine Y.h (WS.a .z) ?_
 rintro⟨gm,gn,rfl,c3,c4,c5⟩
 refine Y.h (WS.a .g1) ?_
 rintro⟨go,gp,rfl,c6,c7,c8⟩
 refine Y.h (WS.a .g2) ?_
 rintro⟨gq,gr,rfl,c9,da,db⟩
 refine Y.h (WS.a .g3) ?_
 rintro⟨gs,gt,rfl,dc,dd,dg⟩
 refine Y.es (aE rfl) rfl (esW rfl (.t .g8) (.t .z) .g4 cA rfl rfl) ?_
 refine Y.nt (Y.ret (Y.v (Y.j ?_)))
 refine Y.i (cU rfl .g8 eK .z cA) (.c .g1 (.c .g1 (.c .g1 (.c .g1 .n)))) ?_
 exact⟨(⟨am.code,am.reply,am.val,am.bytes,am.names,(⟨am.fs.inodes,am.fs.data⟩:DFs)⟩:dY),(by first | exact hj | assumption),_,_,_,_,rfl,rfl⟩
 refine Y.seq (Y.region (Y.ql rfl (bU rfl (.t .g2) .c) (Y.as rfl .z (Y.nt ?_))))
 refine Y.u (.t .z) (fun gu=> ?_) (fun gu=> ?_)
 refine Y.seq (Y.region (Y.ql rfl (qW rfl bX (.t .g8) .g2 bA) (Y.fa rfl .g8 oO (Y.ld rfl iH .z .g1 ?_))))
 refine Y.cl rfl rfl Tryz.func78 rfl rfl (eL (.t .g2) (.t .z) .c) .n (fun _ _ hs tr=>aNa (aJ f (tr.ctx aa) (tr.ctx ab)) _ (by first | assumption | omega) _ (by assumption) (by omega)) ?_
 rintro _ _ ⟨ag,ay,ja,jb,jc,jd,rfl,rfl⟩
 refine Y.m (.c (.c (.c (.c .n)))) ?_
 refine Y.h (WS.a .z) ?_
 rintro⟨gv,gw,rfl,dh,di,dj⟩
 refine Y.h (WS.a .g1) ?_
 rintro⟨gx,gy,rfl,dp,ds,dt⟩
 refine Y.h (WS.a .g2) ?_
 rintro⟨gz,g0,rfl,du,dv,dw⟩
 refine Y.h (WS.a .g3) ?_
 rintro⟨ha,hb,rfl,dx,dy,dz⟩
 refine Y.es (aE rfl) rfl (esW rfl (.t .g10) (.t .z) .g4 cA rfl rfl) ?_
 refine Y.nt (Y.ret (Y.v (Y.j ?_)))
 refine Y.i (cU rfl .g10 eK .z cA) (.c .g1 (.c .g1 (.c .g1 (.c .g1 .n)))) ?_
 exact⟨(⟨ag.code,ag.reply,ag.val,ag.bytes,ag.names,(⟨ag.fs.inodes,ag.fs.data⟩:DFs)⟩:dY),(by first | exact hj | assumption),_,_,_,_,rfl,rfl⟩
 refine Y.seq (Y.seq (Y.region (Y.ql rfl (bU rfl (.t .g4) .c) (Y.as rfl .z (Y.nt ?_)))))
 refine Y.u (.t .z) (fun hc=> ?_) (fun hc=> ?_)
 refine Y.skip (Y.g ?_)
 refine Y.u (.t .z) (fun hd=> ?_) (fun hd=> ?_)
 refine Y.seq (Y.region (Y.ql rfl (qW rfl bX (.t .g10) .g2 bA) (Y.ql rfl (qW rfl lV (.t .g10) .g1 gW) (Y.mv rfl .g15 ?_))))
 refine Y.cl rfl rfl Tryz.func79 rfl rfl (eL (.t .g2) (.t .g1) (.t .z)) .n (fun _ _ hs tr=>aLa (aJ f (tr.ctx aa) (tr.ctx ab)) (jI c (tr.ctx af) (by assumption) (by assumption)) (tr.ctx h2) (by assumption)) ?_
 rintro _ _ ⟨ah,az,je,jf,jg,jh,rfl,rfl⟩
 refine Y.m (.c (.c (.c (.c .n)))) ?_
 refine Y.h (WS.a .z) ?_
 rintro⟨he,hf,rfl,d0,d1,d2⟩
 refine Y.h (WS.a .g1) ?_
 rintro⟨hg,hh,rfl,d3,d4,d5⟩
 refine Y.h (WS.a .g2) ?_
 rintro⟨hi,hk,rfl,d6,d7,d8⟩
 refine Y.h (WS.a .g3) ?_
 rintro⟨hl,hm,rfl,d9,ea,eb⟩
 refine Y.es (aE rfl) rfl (esW rfl (.t .g12) (.t .z) .g4 cA rfl rfl) ?_
 refine Y.nt (Y.ret (Y.v (Y.j ?_)))
 refine Y.i (cU rfl .g12 eK .z cA) (.c .g1 (.c .g1 (.c .g1 (.c .g1 .n)))) ?_
 exact⟨(⟨ah.code,ah.reply,ah.val,ah.bytes,ah.names,(⟨ah.fs.inodes,ah.fs.data⟩:DFs)⟩:dY),(by first | exact hj | assumption),_,_,_,_,rfl,rfl⟩
 exfalso;first | omega | contradiction
 refine Y.seq (Y.region (Y.ql rfl (bU rfl (.t .g6) .c) (Y.er .g1 (Y.as rfl .z (Y.nt ?_)))))
 refine Y.u (.t .z) (fun hn=> ?_) (fun hn=> ?_)
 refine Y.skip (Y.g ?_)
 refine Y.u (.t .z) (fun ho=> ?_) (fun ho=> ?_)
 refine Y.seq (Y.region (Y.ql rfl (qW rfl bX (.t .g11) .g2 bA) (Y.ql rfl (qW rfl lV (.t .g11) .g1 gW) (Y.mv rfl .g16 ?_))))
 refine Y.cl rfl rfl Tryz.func79 rfl rfl (eL (.t .g2) (.t .g1) (.t .z)) .n (fun _ _ hs tr=>aLa (aJ f (tr.ctx aa) (tr.ctx ab)) (jI c (tr.ctx af) (by assumption) (by assumption)) (tr.ctx h2) (by assumption)) ?_
 rintro _ _ ⟨ai,a0,ji,jj,jk,jl,rfl,rfl⟩
 refine Y.m (.c (.c (.c (.c .n)))) ?_
 refine Y.h (WS.a .z) ?_
 rintro⟨hp,hq,rfl,ec,ed,ee⟩
 refine Y.h (WS.a .g1) ?_
 rintro⟨hr,ht,rfl,ef,eg,eh⟩
 refine Y.h (WS.a .g2) ?_
 rintro⟨hu,hv,rfl,ei,ej,ek⟩
 refine Y.h (WS.a .g3) ?_
 rintro⟨hw,hx,rfl,em,en,eo⟩
 refine Y.es (aE rfl) rfl (esW rfl (.t .g13) (.t .z) .g4 cA rfl rfl) ?_
 refine Y.nt (Y.ret (Y.v (Y.j ?_)))
 refine Y.i (cU rfl .g13 eK .z cA) (.c .g1 (.c .g1 (.c .g1 (.c .g1 .n)))) ?_
 exact⟨(⟨ai.code,ai.reply,ai.val,ai.bytes,ai.names,(⟨ai.fs.inodes,ai.fs.data⟩:DFs)⟩:dY),(by first | exact hj | assumption),_,_,_,_,rfl,rfl⟩
 exfalso;first | omega | contradiction
 refine Y.region (Y.ql rfl (bU rfl (.t .g7) .c) (Y.er .g1 (Y.as rfl .z (Y.nt ?_))))
 refine Y.u (.t .z) (fun hy=> ?_) (fun hy=> ?_)
 refine Y.seq (Y.region (Y.ql rfl (qW rfl bX (.t .g12) .g2 bA) (Y.ql rfl (qW rfl lV (.t .g12) .g1 gW) (Y.mv rfl (.s16 .g1) ?_))))
 refine Y.cl rfl rfl Tryz.func79 rfl rfl (eL (.t .g2) (.t .g1) (.t .z)) .n (fun _ _ hs tr=>aLa (aJ f (tr.ctx aa) (tr.ctx ab)) (jI c (tr.ctx af) (by assumption) (by assumption)) (tr.ctx h2) (by assumption)) ?_
 rintro _ _ ⟨aj,a1,jm,jn,jo,jp,rfl,rfl⟩
 refine Y.m (.c (.c (.c (.c .n)))) ?_
 refine Y.h (WS.a .z) ?_
 rintro⟨hz,h3,rfl,ep,et,eu⟩
 refine Y.h (WS.a .g1) ?_
 rintro⟨h4,h5,rfl,ev,ew,ey⟩
 refine Y.h (WS.a .g2) ?_
 rintro⟨h6,h7,rfl,ez,e0,e1⟩
 refine Y.h (WS.a .g3) ?_
 rintro⟨h8,h9,rfl,e2,e3,e4⟩
 refine Y.es (aE rfl) rfl (esW rfl (.t .g14) (.t .z) .g4 cA rfl rfl) ?_
 refine Y.nt (Y.ret (Y.v (Y.j ?_)))
 refine Y.i (cU rfl .g14 eK .z cA) (.c .g1 (.c .g1 (.c .g1 (.c .g1 .n)))) ?_
 exact⟨(⟨aj.code,aj.reply,aj.val,aj.bytes,aj.names,(⟨aj.fs.inodes,aj.fs.data⟩:DFs)⟩:dY),(by first | exact hj | assumption),_,_,_,_,rfl,rfl⟩
 refine Y.seq (Y.seq (Y.region (Y.ql rfl (bU rfl (.t .g8) .c) (Y.as rfl .z (Y.nt ?_)))))
 refine Y.u (.t .z) (fun ia=> ?_) (fun ia=> ?_)
 refine Y.skip (Y.g ?_)
 refine Y.u (.t .z) (fun ib=> ?_) (fun ib=> ?_)
 refine Y.seq (Y.region (Y.ql rfl (qW rfl bX (.t .g14) .g2 bA) (Y.ql rfl (qW rfl lV (.t .g14) .g1 gW) ?_)))
 refine Y.cl rfl rfl Tryz.func80 rfl rfl (aS (.t .g1) (.t .z)) .n (fun _ _ hs tr=>aMy (aJ f (tr.ctx aa) (tr.ctx ab)) (jI c (tr.ctx af) (by assumption) (by assumption)) (by assumption)) ?_
 rintro _ _ ⟨ak,a2,jq,jr,js,jt,rfl,rfl⟩
 refine Y.m (.c (.c (.c (.c .n)))) ?_
 refine Y.h (WS.a .z) ?_
 rintro⟨ic,id,rfl,e5,e7,e8⟩
 refine Y.h (WS.a .g1) ?_
 rintro⟨ie,ig,rfl,e9,fb,fc⟩
 refine Y.h (WS.a .g2) ?_
 rintro⟨ih,ii,rfl,fd,fe,ff⟩
 refine Y.h (WS.a .g3) ?_
 rintro⟨ij,ik,rfl,fg,fh,fi⟩
 refine Y.es (aE rfl) rfl (esW rfl (.t .g15) (.t .z) .g4 cA rfl rfl) ?_
 refine Y.nt (Y.ret (Y.v (Y.j ?_)))
 refine Y.i (cU rfl .g15 eK .z cA) (.c .g1 (.c .g1 (.c .g1 (.c .g1 .n)))) ?_
 exact⟨(⟨ak.code,ak.reply,ak.val,ak.bytes,ak.names,(⟨ak.fs.inodes,ak.fs.data⟩:DFs)⟩:dY),(by first | exact hj | assumption),_,_,_,_,rfl,rfl⟩
 exfalso;first | omega | contradiction
 refine Y.region (Y.ql rfl (bU rfl (.t .g10) .c) (Y.er .g1 (Y.as rfl .z (Y.nt ?_))))
 refine Y.u (.t .z) (fun il=> ?_) (fun il=> ?_)
 refine Y.seq (Y.region (Y.ql rfl (qW rfl bX (.t .g15) .g2 bA) (Y.ql rfl (qW rfl lV (.t .g15) .g1 gW) ?_)))
 refine Y.cl rfl rfl Tryz.func80 rfl rfl (aS (.t .g1) (.t .z)) .n (fun _ _ hs tr=>aMy (aJ f (tr.ctx aa) (tr.ctx ab)) (jI c (tr.ctx af) (by assumption) (by assumption)) (by assumption)) ?_
 rintro _ _ ⟨al,a3,ju,jv,im,io,rfl,rfl⟩
 refine Y.m (.c (.c (.c (.c .n)))) ?_
 refine Y.h (WS.a .z) ?_
 rintro⟨fj,fk,rfl,a4,a5,a6⟩
 refine Y.h (WS.a .g1) ?_
 rintro⟨fl,fm,rfl,a7,a8,a9⟩
 refine Y.h (WS.a .g2) ?_
 rintro⟨fn,fo,rfl,ba,bb,bc⟩
 refine Y.h (WS.a .g3) ?_
 rintro⟨fp,fq,rfl,bd,be,bf⟩
 refine Y.es (aE rfl) rfl (esW rfl (.t .g16) (.t .z) .g4 cA rfl rfl) ?_
 refine Y.nt (Y.ret (Y.v (Y.j ?_)))
 refine Y.i (cU rfl .g16 eK .z cA) (.c .g1 (.c .g1 (.c .g1 (.c .g1 .n)))) ?_
 exact⟨(⟨al.code,al.reply,al.val,al.bytes,al.names,(⟨al.fs.inodes,al.fs.data⟩:DFs)⟩:dY),(by first | exact hj | assumption),_,_,_,_,rfl,rfl⟩
 refine Y.seq (Y.region (Y.ql rfl (bU rfl (.t .g11) .c) (Y.as rfl .z (Y.nt ?_))))
 refine Y.u (.t .z) (fun bg=> ?_) (fun bg=> ?_)
 refine Y.seq (Y.region (Y.ql rfl (qW rfl bX (.t (.s16 .g1)) .g2 bA) (Y.fa rfl (.s16 .g1) oO (Y.ld rfl iH .z .g1 (Y.fa rfl (.s16 .g3) aFl (Y.ld rfl iH .z .g1 ?_))))))
 refine Y.cl rfl rfl Tryz.func81 rfl rfl (eL (.t .g4) (.t .g2) (.t .z)) .n (fun _ _ hs tr=>aOr (aJ f (tr.ctx aa) (tr.ctx ab)) _ (by first | assumption | omega) _ (by first | assumption | omega) (by assumption)) ?_
 rintro _ _ ⟨ac,av,ip,iq,ir,it,rfl,rfl⟩
 refine Y.m (.c (.c (.c (.c .n)))) ?_
 refine Y.h (WS.a .z) ?_
 rintro⟨fr,ft,rfl,bh,bi,bj⟩
 refine Y.h (WS.a .g1) ?_
 rintro⟨fu,fv,rfl,bk,bm,bn⟩
 refine Y.h (WS.a .g2) ?_
 rintro⟨fw,fx,rfl,bo,bp,bq⟩
 refine Y.h (WS.a .g3) ?_
 rintro⟨fy,f0,rfl,br,bs,bt⟩
 refine Y.es (aE rfl) rfl (esW rfl (.t (.s16 .g5)) (.t .z) .g4 cA rfl rfl) ?_
 refine Y.nt (Y.ret (Y.v (Y.j ?_)))
 refine Y.i (cU rfl (.s16 .g5) eK .z cA) (.c .g1 (.c .g1 (.c .g1 (.c .g1 .n)))) ?_
 exact⟨(⟨ac.code,ac.reply,ac.val,ac.bytes,ac.names,(⟨ac.fs.inodes,ac.fs.data⟩:DFs)⟩:dY),(by first | exact hj | assumption),_,_,_,_,rfl,rfl⟩
 refine Y.seq (Y.region (Y.ql rfl (bU rfl (.t .g13) .c) (Y.as rfl .z (Y.nt ?_))))
 refine Y.u (.t .z) (fun bu=> ?_) (fun bu=> ?_)
 refine Y.seq (Y.region (Y.ql rfl (qW rfl bX (.t (.s16 .g3)) .g2 bA) (Y.fa rfl (.s16 .g3) oO (Y.ld rfl iH .z .g1 (Y.fa rfl (.s16 .g5) aFl (Y.ld rfl iH .z .g1 ?_))))))
 refine Y.cl rfl rfl Tryz.func82 rfl rfl (eL (.t .g4) (.t .g2) (.t .z)) .n (fun _ _ hs tr=>aNj (aJ f (tr.ctx aa) (tr.ctx ab)) _ (by first | assumption | omega) _ (by first | assumption | omega) (by assumption)) ?_
 rintro _ _ ⟨ad,aw,iu,iv,iw,ix,rfl,rfl⟩
 refine Y.m (.c (.c (.c (.c .n)))) ?_
 refine Y.h (WS.a .z) ?_
 rintro⟨f1,f2,rfl,bv,bw,bx⟩
 refine Y.h (WS.a .g1) ?_
 rintro⟨f3,f4,rfl,bz,b0,b1⟩
 refine Y.h (WS.a .g2) ?_
 rintro⟨f5,f6,rfl,b2,b3,b4⟩
 refine Y.h (WS.a .g3) ?_
 rintro⟨f7,f8,rfl,b5,b6,b7⟩
 refine Y.es (aE rfl) rfl (esW rfl (.t (.s16 .g7)) (.t .z) .g4 cA rfl rfl) ?_
 refine Y.nt (Y.ret (Y.v (Y.j ?_)))
 refine Y.i (cU rfl (.s16 .g7) eK .z cA) (.c .g1 (.c .g1 (.c .g1 (.c .g1 .n)))) ?_
 exact⟨(⟨ad.code,ad.reply,ad.val,ad.bytes,ad.names,(⟨ad.fs.inodes,ad.fs.data⟩:DFs)⟩:dY),(by first | exact hj | assumption),_,_,_,_,rfl,rfl⟩
 refine Y.skip (Y.ab (Y.g (Y.seq (Y.region (Y.ql rfl (qW rfl bX (.t (.s16 .g3)) .g2 bA) (Y.ql rfl (qW rfl lV (.t (.s16 .g3)) .g1 gW) ?_))))))
 refine Y.cl rfl rfl Tryz.func83 rfl rfl (aS (.t .g1) (.t .z)) .n (fun _ _ hs tr=>aOt (aJ f (tr.ctx aa) (tr.ctx ab)) (jI c (tr.ctx af) (by assumption) (by assumption)) (by assumption)) ?_
 rintro _ _ ⟨ae,ax,iy,iz,i0,i1,rfl,rfl⟩
 refine Y.m (.c (.c (.c (.c .n)))) ?_
 refine Y.h (WS.a .z) ?_
 rintro⟨f9,ga,rfl,b9,ca,cb⟩
 refine Y.h (WS.a .g1) ?_
 rintro⟨gb,gc,rfl,cc,cd,ce⟩
 refine Y.h (WS.a .g2) ?_
 rintro⟨gd,ge,rfl,cf,cg,ch⟩
 refine Y.h (WS.a .g3) ?_
 rintro⟨gf,gg,rfl,ci,cj,ck⟩
 refine Y.es (aE rfl) rfl (esW rfl (.t (.s16 .g4)) (.t .z) .g4 cA rfl rfl) ?_
 refine Y.nt (Y.ret ?_)
 refine Y.i (cU rfl (.s16 .g4) eK .z cA) (.c .g1 (.c .g1 (.c .g1 (.c .g1 .n)))) ?_
 exact⟨(⟨ae.code,ae.reply,ae.val,ae.bytes,ae.names,(⟨ae.fs.inodes,ae.fs.data⟩:DFs)⟩:dY),(by first | exact hj | assumption),_,_,_,_,rfl,rfl⟩

end Go.Proofs.YtmejbfmhaoilmaaGreatDoor
/- What is proved: contracts of functions, one a function. No condition. -/
namespace Go.Proofs.YtmejbfmhaoilmaaGreatDoor
open Go Go.RowKit
set_option linter.unusedVariables false
set_option linter.unusedSimpArgs false
set_option maxHeartbeats 1000000
set_option maxRecDepth 20000
theorem aOy {w0:World}{S0:Bs}{cd:(List UInt8)}{v0:Value} (h0:dD.ro w0 (FF w0 S0) cd [v0]):
    Calls Tryz.prog 15 #[v0] w0 (aI w0 S0 (fun r l=>∃g:Nat,r= .pointer (some ⟨g,0,none⟩)∧l= [bV g 75 2 1 [v0,.int .i64 0]])):=by
 obtain⟨A0,c0,rfl,hl0,hm0,hb0,he0⟩:=aD h0
 refine Y.enter (N:=6) Tryz.func15 rfl rfl (by simp) [(0,.slice A0 cd.length c0)] (by simp) (l0:= []) trivial ?_
 refine Y.seq (Y.region (Y.ql rfl (aA rfl .c) (Y.nt (Y.seq (Y.region (Y.mv rfl .g1 (Y.ql rfl (aW (cs:= [.slice A0 cd.length c0,.int .i64 0]) rfl aMw (pv1 (.t .z)) rfl) ?_)))))))
 refine Y.el rfl (fQ (cs:= [.slice A0 cd.length c0,.int .i64 0]) (n:=2) rfl (.t .z) rfl rfl) ?_
 rintro _ _ ⟨g2,rfl,rfl⟩
 refine Y.er .g3 (Y.as rfl .z (Y.nt (Y.ret ?_)))
 refine Y.i (aU rfl .z) (.c .z .n) ?_
 exact⟨_,rfl,rfl⟩

theorem mV {w0:World}{S0:Bs}{g0 e0 s0:Nat}{aa:List Value}{cd:List UInt8}{Ac:Option Addr}{cc:Nat} (hcd:dD.ro w0 (FF w0 S0) cd [.slice Ac cd.length cc]) {a:Int} (n:Int) (hs:cI [bV g0 e0 s0 1 ((.slice Ac cd.length cc) :: (.int .i64 a) :: aa)] w0 S0) (ha:0≤a∧a≤1000000) (hn:n≤1000000):
    Calls Tryz.prog 30 #[.pointer (some ⟨g0,0,none⟩),.int .i64 n] w0 (aI w0 S0 (fun r l=>∃m:Int,0≤m∧(1≤n→m<n)∧r= .int .i64 m∧l= [bV g0 e0 s0 1 (.slice Ac cd.length cc :: .int .i64 (a+1) :: aa)])):=by
 obtain⟨hlc,hmc,hbc⟩:=nA hcd
 refine Y.enter (N:=71) Tryz.func30 rfl rfl (by simp) [(0,.pointer (some ⟨g0,0,none⟩)),(1,.int .i64 n)] (by simp) hs ?_
 refine Y.seq (Y.region (Y.ql rfl (aA rfl .c) (Y.nt (Y.seq (Y.region (Y.mv rfl .g1 (Y.mv rfl .g2 ?_)))))))
 refine Y.nc rfl .z (Y.fa rfl .z zZ (Y.ld rfl bP .z .z ?_))
 refine Y.ql rfl (bN (c:=a+1) rfl (.t .z) .c (wr (by omega) (by omega) (by omega))) ?_
 refine Y.nc rfl .g5 (Y.fa rfl .z zZ ?_)
 refine Y.es (aE rfl) rfl (qX (off:=1) (cs:= [.int .i64 (a+1)]) rfl jO (.t .z) (.t .g2) rfl (pX rfl) .z (by simp only [List.length_cons,List.length_nil];omega) (.c .g1 .n)) ?_
 refine Y.nt (Y.seq (Y.seq (Y.region (Y.mv rfl .g10 (Y.ql rfl (dA rfl (.t .z) .c) (Y.nt ?_))))))
 refine Y.u (.t .z) (fun b2=> ?_) (fun b2=> ?_)
 refine Y.seq (Y.region (Y.er .g10 (Y.ql rfl (aA rfl .c) (Y.nt (Y.ret (Y.j ?_))))))
 refine Y.i (aU rfl .z) (.c .z .n) ?_
 exact⟨0,by omega,fun h=>by omega,rfl,rfl⟩
 refine Y.skip (Y.g (Y.seq (Y.region (Y.mv rfl .g11 (Y.nc rfl .z (Y.fa rfl .z zZ (Y.ld rfl bP .z .z ?_)))))))
 refine Y.ql rfl (iT (c:=(a+1) - 1) rfl (.t .z) .c (wr (by omega) (by omega) (by omega))) ?_
 refine Y.as rfl .z (Y.nt (Y.seq (Y.region (Y.mv rfl (.s16 .g1) (Y.nc rfl .z (Y.fa rfl .z aBc (Y.ld rfl oG .z .z ?_)))))))
 refine Y.ql rfl (bD rfl iJ (.t .z)) (Y.as rfl .z (Y.nt (Y.seq (Y.seq (Y.region (Y.mv rfl .z (Y.ql rfl (bU rfl (.t .z) .c) ?_)))))))
 refine Y.nt ?_
 refine Y.u (.t .z) (fun b3=> ?_) (fun b3=> ?_)
 refine Y.seq (Y.region (Y.mv rfl .g8 ?_))
 refine Y.ql rfl (rH (c:=((a+1) - 1) * 7) rfl (.t .z) .c (wr (by omega) (by omega) (by omega))) ?_
 refine Y.mv rfl (.s16 .g12) ?_
 refine Y.ql rfl (xT (c:=Int.tmod (((a+1) - 1) * 7) n) rfl (.t .g1) (.t .z) (by omega) rfl) ?_
 refine Y.er (.s16 .g12) (Y.as rfl .z (Y.nt (Y.ret (Y.j ?_))))
 refine Y.i (aU rfl .z) (.c .z .n) ?_
 exact⟨_,(jP (by omega) (by omega)).1,fun h=>(jP (by omega) (by omega)).2,rfl,rfl⟩
 refine Y.skip (Y.g (Y.seq ?_))
 have aj:=jP (x:=a+1 - 1) (n:=(cd.length:Int)) (by omega) (by omega);have ak:=aId (x:=a+1 - 1) (n:=(cd.length:Int)) (by omega) (by omega);have al:=jP (x:=a+1 - 1+1) (n:=(cd.length:Int)) (by omega) (by omega)
 refine Y.dr .z 15 fR ?_
 refine Y.sc (qs 0 15++ [(15,false)]) (by kernel_rfl) ?_
 refine Y.dm rfl rfl .z (.s16 .g9) (Y.dn rfl rfl .z .z (Y.df rfl rfl .z .z aBc (Y.dl rfl rfl .z oG .z .z (Y.dm rfl rfl .z .g12 (Y.dm rfl rfl .z .g7 ?_)))))
 refine Y.dk rfl rfl .z (xT (c:=Int.tmod ((a+1) - 1) (cd.length:Int)) rfl (.t .g1) (.t .z) (by omega) rfl) ?_
 obtain⟨au,ac,ab⟩:=(aH2 hcd) (by omega)
 subst ac
 obtain⟨x5,am⟩:=aK (xs:=cd) (j:=Int.toNat (Int.tmod ((a+1) - 1) (cd.length:Int))) (by omega)
 obtain⟨an,ad,ae,af⟩:=ab.elem am
 obtain⟨rfl,av⟩:=ad
 have ao:=UInt8.toNat_lt x5
 refine Y.dk rfl rfl .z (aB (j:=Int.toNat (Int.tmod ((a+1) - 1) (cd.length:Int))) rfl iJ aA9 (.t .g3) (.t .z) (by omega) (by omega)) ?_
 refine Y.dk rfl rfl .z (aM rfl aK4 (.t .z) (WS.i ae af rfl)) ?_
 refine Y.dk rfl rfl .z (aC6 (c:=(x5.toNat:Int)) rfl (.t .z) u_5 u_2 (wr rfl (by omega) (by have:=UInt8.toNat_lt x5;omega))) ?_
 refine Y.dm rfl rfl .z (.s16 .g2) (Y.dm rfl rfl .z .g13 ?_)
 refine Y.dk rfl rfl .z (aGp (c:=((a+1) - 1) / (cd.length:Int)) rfl (.t .g1) (.t .z) (by omega) (aDt (by omega) (by omega) (by omega))) ?_
 refine Y.dk rfl rfl .z (rH (c:=(((a+1) - 1) / (cd.length:Int)) * 37) rfl (.t .z) .c (wr (by omega) (by omega) (by omega))) ?_
 refine Y.dk rfl rfl .z (bN (c:=(x5.toNat:Int)+((((a+1) - 1) / (cd.length:Int)) * 37)) rfl (.t .g4) (.t .z) (wr (by omega) (by omega) (by omega))) ?_
 refine Y.q (aC rfl rfl) rfl (by decide) rfl (aA rfl (.t .z)) ?_
 refine Y.sl rfl ?_
 refine Y.w ?_
 refine Y.af (by kernel_rfl) ?_
 refine Y.g (Y.seq (Y.seq (Y.region (Y.mv rfl (.s16 (.s16 .g10)) (Y.ql rfl (fI rfl (.t .z) .c) (Y.nt ?_))))))
 refine Y.u (.t .z) (fun b7=> ?_) (fun b7=> ?_)
 have aj:=jP (x:=a+1 - 1) (n:=(cd.length:Int)) (by omega) (by omega);have ak:=aId (x:=a+1 - 1) (n:=(cd.length:Int)) (by omega) (by omega);have al:=jP (x:=a+1 - 1+1) (n:=(cd.length:Int)) (by omega) (by omega)
 refine Y.dr .z 17 fR ?_
 refine Y.sc (qs 0 17++ [(17,false)]) (by kernel_rfl) ?_
 refine Y.dm rfl rfl .z .g2 ?_
 refine Y.dk rfl rfl .z (rH (c:=((x5.toNat:Int)+((((a+1) - 1) / (cd.length:Int)) * 37)) * 251) rfl (.t .z) .c (wr (by omega) (by omega) (by omega))) ?_
 refine Y.dm rfl rfl .z (.s16 (.s16 .g13)) (Y.dn rfl rfl .z .z (Y.df rfl rfl .z .z aBc (Y.dl rfl rfl .z oG .z .z (Y.dm rfl rfl .z (.s16 .g16) ?_))))
 refine Y.dk rfl rfl .z (bN (c:=((a+1) - 1)+1) rfl (.t .z) .c (wr (by omega) (by omega) (by omega))) ?_
 refine Y.dm rfl rfl .z (.s16 .g12) ?_
 refine Y.dk rfl rfl .z (xT (c:=Int.tmod (((a+1) - 1)+1) (cd.length:Int)) rfl (.t .g1) (.t .z) (by omega) rfl) ?_
 obtain⟨x8,ap⟩:=aK (xs:=cd) (j:=Int.toNat (Int.tmod (((a+1) - 1)+1) (cd.length:Int))) (by omega)
 obtain⟨aq,ag,ah,ai⟩:=ab.elem ap
 obtain⟨rfl,aw⟩:=ag
 have ar:=UInt8.toNat_lt x8
 refine Y.dk rfl rfl .z (aB (j:=Int.toNat (Int.tmod (((a+1) - 1)+1) (cd.length:Int))) rfl iJ aA9 (.t .g4) (.t .z) (by omega) (by omega)) ?_
 refine Y.dk rfl rfl .z (aM rfl aK4 (.t .z) (WS.i ah ai rfl)) ?_
 refine Y.dk rfl rfl .z (aC6 (c:=(x8.toNat:Int)) rfl (.t .z) u_5 u_2 (wr rfl (by omega) (by have:=UInt8.toNat_lt x8;omega))) ?_
 refine Y.dk rfl rfl .z (rH (c:=((x8.toNat * 13:Nat):Int)) rfl (.t .z) .c (wr (by omega) (by omega) (by omega))) ?_
 refine Y.dk rfl rfl .z (bN (c:=(((x5.toNat:Int)+((((a+1) - 1) / (cd.length:Int)) * 37)) * 251)+((x8.toNat * 13:Nat):Int)) rfl (.t .g12) (.t .z) (wr (by omega) (by omega) (by omega))) ?_
 refine Y.dm rfl rfl .z (.s16 (.s16 .g9)) ?_
 refine Y.dk rfl rfl .z (bN (c:=((((x5.toNat:Int)+((((a+1) - 1) / (cd.length:Int)) * 37)) * 251)+((x8.toNat * 13:Nat):Int))+((a+1) - 1)) rfl (.t .g1) (.t .z) (wr (by omega) (by omega) (by omega))) ?_
 refine Y.er (.s16 .g3) ?_
 refine Y.q (aC rfl rfl) rfl (by decide) rfl (aA rfl (.t .z)) ?_
 refine Y.sl rfl ?_
 refine Y.w ?_
 refine Y.af (by kernel_rfl) ?_
 refine Y.g (Y.seq (Y.region (Y.mv rfl .z (Y.mv rfl (.s16 (.s16 (.s16 .g14))) ?_))))
 refine Y.ql rfl (xT (c:=Int.tmod (((((x5.toNat:Int)+((((a+1) - 1) / (cd.length:Int)) * 37)) * 251)+((x8.toNat * 13:Nat):Int))+((a+1) - 1)) n) rfl (.t .g1) (.t .z) (by omega) rfl) ?_
 refine Y.er (.s16 (.s16 (.s16 .g14))) (Y.as rfl .z (Y.nt (Y.ret ?_)))
 refine Y.i (aU rfl .z) (.c .z .n) ?_
 exact⟨_,(jP (by omega) (by omega)).1,fun h=>(jP (by omega) (by omega)).2,rfl,rfl⟩
 refine Y.skip (Y.g (Y.seq (Y.region (Y.mv rfl .g2 (Y.mv rfl (.s16 (.s16 .g13)) ?_)))))
 refine Y.ql rfl (xT (c:=Int.tmod ((x5.toNat:Int)+((((a+1) - 1) / (cd.length:Int)) * 37)) n) rfl (.t .g1) (.t .z) (by omega) rfl) ?_
 refine Y.er (.s16 (.s16 .g13)) (Y.as rfl .z (Y.nt (Y.ret ?_)))
 refine Y.i (aU rfl .z) (.c .z .n) ?_
 exact⟨_,(jP (by omega) (by omega)).1,fun h=>(jP (by omega) (by omega)).2,rfl,rfl⟩

theorem aK2 {w0:World}{S0:Bs}{g0 e0 s0:Nat}{post0:List Value}{cd:List UInt8}{Ac:Option Addr}{cc:Nat} (hcd:dD.ro w0 (FF w0 S0) cd [.slice Ac cd.length cc]) {a:Int} (n:Int) (hs:cI [bV g0 e0 s0 1 ((.slice Ac cd.length cc) :: (.int .i64 a) :: post0)] w0 S0) (ha:0≤a∧a≤1000000) (hn:n≤1000000):
    Calls Tryz.prog 55 #[.pointer (some ⟨g0,0,none⟩),.int .i64 n] w0 (aI w0 S0 (fun r l=>∃b:Bool,r= .bool b∧l= [bV g0 e0 s0 1 (.slice Ac cd.length cc :: .int .i64 (a+1) :: post0)])):=by
 obtain⟨hlc,hmc,hbc⟩:=nA hcd
 refine Y.enter (N:=9) Tryz.func55 rfl rfl (by simp) [(0,.pointer (some ⟨g0,0,none⟩)),(1,.int .i64 n)] (by simp) hs ?_
 refine Y.seq (Y.region (Y.ql rfl (aA rfl .c) (Y.nt (Y.seq (Y.region (Y.mv rfl .g1 (Y.mv rfl .g3 ?_)))))))
 refine Y.cl rfl rfl Tryz.func30 rfl rfl (aS (.t .g1) (.t .z)) (.c .z .n) (fun _ _ hs tr=>mV (tr.ctx hcd) _ hs (by omega) (by omega)) ?_
 rintro _ _ ⟨m2,h0m2,h1m2,rfl,rfl⟩
 refine Y.m (.c .n) ?_
 refine Y.ql rfl (bU rfl (.t .z) .c) (Y.er .g4 (Y.as rfl .z (Y.nt (Y.ret ?_))))
 refine Y.i (aU rfl .z) (.c .z .n) ?_
 exact⟨_,rfl,rfl⟩

theorem tQ {w0:World}{S0:Bs}{g0 e0 s0:Nat}{aa:List Value}{cd:List UInt8}{Ac:Option Addr}{cc:Nat} (hcd:dD.ro w0 (FF w0 S0) cd [.slice Ac cd.length cc]) {a:Int}{ls:(List Int)}{v1:Value} (h1:bK.ro w0 (FF w0 S0) ls [v1]) (hs:cI [bV g0 e0 s0 1 ((.slice Ac cd.length cc) :: (.int .i64 a) :: aa)] w0 S0) (ha:0≤a∧a≤1000000) (hn:1≤ls.length∧ls.length≤1000):
    Calls Tryz.prog 53 #[.pointer (some ⟨g0,0,none⟩),v1] w0 (aI w0 S0 (fun r l=>∃m:Int,m∈ls∧r= .int .i64 m∧l= [bV g0 e0 s0 1 (.slice Ac cd.length cc :: .int .i64 (a+1) :: aa)])):=by
 obtain⟨hlc,hmc,hbc⟩:=nA hcd
 obtain⟨A1,c1,rfl,aj,ak,al,ag⟩:=aD h1
 refine Y.enter (N:=12) Tryz.func53 rfl rfl (by simp) [(0,.pointer (some ⟨g0,0,none⟩)),(1,.slice A1 ls.length c1)] (by simp) hs ?_
 refine Y.seq (Y.region (Y.ql rfl (aA rfl .c) (Y.nt (Y.seq (Y.region (Y.mv rfl .g2 (Y.mv rfl .g2 ?_)))))))
 refine Y.mv rfl .g4 (Y.ql rfl (bD rfl eF (.t .z)) ?_)
 refine Y.cl rfl rfl Tryz.func30 rfl rfl (aS (.t .g2) (.t .z)) (.c .z .n) (fun _ _ hs tr=>mV (tr.ctx hcd) _ hs (by omega) (by omega)) ?_
 rintro _ _ ⟨m3,h0m3,h1m3,rfl,rfl⟩
 refine Y.m (.c .n) ?_
 obtain⟨am,ab,ac⟩:=ag (by omega)
 subst ab
 obtain⟨x5,ah⟩:=aK (xs:=ls) (j:=Int.toNat m3) (by omega)
 obtain⟨ai,ad,ae,af⟩:=ac.elem ah
 obtain⟨rfl,an⟩:=ad
 refine Y.ql rfl (aB (j:=Int.toNat m3) rfl eF jO (.t .g4) (.t .z) (by omega) (by omega)) ?_
 refine Y.ql rfl (aM rfl bP (.t .z) (WS.i ae af rfl)) (Y.er .g7 (Y.as rfl .z (Y.nt (Y.ret ?_))))
 refine Y.i (aU rfl .z) (.c .z .n) ?_
 exact⟨_,List.mem_of_getElem? (by assumption),rfl,rfl⟩

theorem c_4 {w0:World}{S0:Bs}{cd:(List UInt8)}{v0:Value} (h0:dD.ro w0 (FF w0 S0) cd [v0]):
    Calls Tryz.prog 4 #[v0] w0 (aI w0 S0 (fun r l=>r= .bool (decide ((1048576:Int)<(cd.length:Int)))∧l= [])):=by
 obtain⟨A0,c0,rfl,hl0,hm0,hb0,he0⟩:=aD h0
 refine Y.enter (N:=6) Tryz.func4 rfl rfl (by simp) [(0,.slice A0 cd.length c0)] (by simp) (l0:= []) trivial ?_
 refine Y.seq (Y.region (Y.ql rfl (aA rfl .c) (Y.nt (Y.seq (Y.region (Y.mv rfl .g1 (Y.ql rfl (bD rfl iJ (.t .z)) ?_)))))))
 refine Y.ql rfl (fI rfl (.t .z) .c) (Y.er .g3 (Y.as rfl .z (Y.nt (Y.ret ?_))))
 refine Y.i (aU rfl .z) .n ?_
 exact⟨by simp,rfl⟩

theorem aKl {w0:World}{S0:Bs}{g0 e0 s0:Nat}{aa:List Value}{cd:List UInt8}{Ac:Option Addr}{cc:Nat} (hcd:dD.ro w0 (FF w0 S0) cd [.slice Ac cd.length cc]) {a:Int} (hs:cI [bV g0 e0 s0 1 ((.slice Ac cd.length cc) :: (.int .i64 a) :: aa)] w0 S0) (ha:0≤a∧a≤1000000):
    Calls Tryz.prog 89 #[.pointer (some ⟨g0,0,none⟩)] w0 (aI w0 S0 (fun r l=>∃s:ByteArray,aV s=0∧r= .string s∧l= [bV g0 e0 s0 1 (.slice Ac cd.length cc :: .int .i64 (a+1) :: aa)])):=by
 obtain⟨hlc,hmc,hbc⟩:=nA hcd
 refine Y.enter (N:=8) Tryz.func89 rfl rfl (by simp) [(0,.pointer (some ⟨g0,0,none⟩))] (by simp) hs ?_
 refine Y.seq (Y.region (Y.ql rfl (aA rfl .c) (Y.nt (Y.seq (Y.region ?_)))))
 refine Y.el rfl (aQ (ps:= [(0,.string (⟨#[97]⟩)),(1,.string (⟨#[98]⟩)),(2,.string (⟨#[99]⟩)),(3,.string (⟨#[100]⟩)),(4,.string (⟨#[97,98]⟩)),(5,.string (⟨#[104,97,108,108]⟩))]) (cs:= [.string (⟨#[97]⟩),.string (⟨#[98]⟩),.string (⟨#[99]⟩),.string (⟨#[100]⟩),.string (⟨#[97,98]⟩),.string (⟨#[104,97,108,108]⟩)]) rfl eQ (inz jK) (by decide) (by intro act hact;simp only [List.map_toArray,List.map_cons,List.map_nil,(show Val _ _ _ from .c) act hact,(show Val _ _ _ from .c) act hact,(show Val _ _ _ from .c) act hact,(show Val _ _ _ from .c) act hact,(show Val _ _ _ from .c) act hact,(show Val _ _ _ from .c) act hact]) rfl rfl (by decide) rfl rfl) ?_
 rintro _ _ ⟨g2,rfl,rfl⟩
 refine Y.mv rfl .g2 ?_
 refine Y.cl rfl rfl Tryz.func30 rfl rfl (aS (.t .z) .c) (.c .g1 .n) (fun _ _ hs tr=>mV (tr.ctx hcd) _ hs (by omega) (by omega)) ?_
 rintro _ _ ⟨m3,h0m3,h1m3,rfl,rfl⟩
 refine Y.m (.c .n) ?_
 refine Y.ad (c:=aH cT ([⟨#[97]⟩,⟨#[98]⟩,⟨#[99]⟩,⟨#[100]⟩,⟨#[97,98]⟩,⟨#[104,97,108,108]⟩]:(List ByteArray)) [.slice (some ⟨g2,0,none⟩) 6 6]) (.c .g1 .n) (fun w S h=>fS (xs:=([⟨#[97]⟩,⟨#[98]⟩,⟨#[99]⟩,⟨#[100]⟩,⟨#[97,98]⟩,⟨#[104,97,108,108]⟩]:(List ByteArray))) h rfl (by decide) (by omega) (by omega)) ?_
 refine Y.ql rfl (aB (j:=Int.toNat m3) rfl eQ mU (.t .g2) (.t .z) (by omega) (by first | omega |(simp <;> omega))) ?_
 obtain⟨x5,ab⟩:=aK (xs:=([⟨#[97]⟩,⟨#[98]⟩,⟨#[99]⟩,⟨#[100]⟩,⟨#[97,98]⟩,⟨#[104,97,108,108]⟩]:(List ByteArray))) (j:=Int.toNat m3) (by first | omega |(simp <;> omega))
 refine Y.ql rfl (aM rfl iH (.t .z) (WS.m .z ab)) (Y.er .g5 (Y.as rfl .z (Y.nt (Y.ret ?_))))
 refine Y.i (aU rfl .z) (.c .g1 .n) ?_
 exact⟨_,(aFy _ (List.mem_of_getElem? (by assumption))),rfl,rfl⟩

end Go.Proofs.YtmejbfmhaoilmaaGreatDoor
/- What is proved: contracts of functions, one a function. No condition. -/
namespace Go.Proofs.YtmejbfmhaoilmaaGreatDoor
open Go Go.RowKit
set_option linter.unusedVariables false
set_option linter.unusedSimpArgs false
set_option maxHeartbeats 1000000
set_option maxRecDepth 20000
theorem aI1 {w0:World}{S0:Bs}{g0 e0 s0:Nat}{ac:List Value}{cd:List UInt8}{Ac:Option Addr}{cc:Nat} (hcd:dD.ro w0 (FF w0 S0) cd [.slice Ac cd.length cc]) {a:Int} (hs:cI [bV g0 e0 s0 1 ((.slice Ac cd.length cc) :: (.int .i64 a) :: ac)] w0 S0) (ha:0≤a∧a≤990000):
    Calls Tryz.prog 84 #[.pointer (some ⟨g0,0,none⟩)] w0 (aI w0 S0 (fun r l=>∃(s:ByteArray) (u:Int),(s.size≤100∧a≤u∧u≤a+8)∧r= .string s∧l= [bV g0 e0 s0 1 (.slice Ac cd.length cc :: .int .i64 u :: ac)])):=by
 obtain⟨hlc,hmc,hbc⟩:=nA hcd
 refine Y.enter (N:=20) Tryz.func84 rfl rfl (by simp) [(0,.pointer (some ⟨g0,0,none⟩))] (by simp) hs ?_
 refine Y.seq (Y.region (Y.ql rfl (aA rfl .c) (Y.nt (Y.seq (Y.region ?_)))))
 refine Y.el rfl (eA rfl eQ (inz jK)) ?_
 rintro _ _ ⟨g2,rfl,rfl⟩
 refine Y.as rfl .z (Y.nt (Y.seq (Y.seq (Y.region (Y.mv rfl .g3 ?_)))))
 refine Y.el rfl (aQ (ps:= [(0,.int .i64 1),(1,.int .i64 1),(2,.int .i64 2),(3,.int .i64 2),(4,.int .i64 3),(5,.int .i64 0)]) (cs:= [.int .i64 1,.int .i64 1,.int .i64 2,.int .i64 2,.int .i64 3,.int .i64 0]) rfl eF (inz gI) (by decide) (by intro act hact;simp only [List.map_toArray,List.map_cons,List.map_nil,(show Val _ _ _ from .c) act hact,(show Val _ _ _ from .c) act hact,(show Val _ _ _ from .c) act hact,(show Val _ _ _ from .c) act hact,(show Val _ _ _ from .c) act hact,(show Val _ _ _ from .c) act hact]) rfl rfl (by decide) rfl rfl) ?_
 rintro _ _ ⟨g3,rfl,rfl⟩
 refine Y.ad (c:=aH bK ([1,1,2,2,3,0]:(List Int)) [.slice (some ⟨g3,0,none⟩) 6 6]) (.c .z .n) (fun w S h=>fS (xs:=([1,1,2,2,3,0]:(List Int))) h rfl (by simp) (by omega) (by omega)) ?_
 refine Y.cl rfl rfl Tryz.func53 rfl rfl (aS (.t .g1) (.t .z)) (.c .g2 .n) (fun _ _ hs tr=>tQ (tr.ctx hcd) (tr.own .z) hs (by omega) (by simp)) ?_
 rintro _ _ ⟨m5,aj,rfl,rfl⟩
 refine Y.m (.c .n) ?_
 simp only [List.mem_cons,List.not_mem_nil,or_false] at aj
 refine Y.as rfl .z (Y.nt (Y.block ?_))
 refine Y.add (c:=aH cT ([]:(List ByteArray)) [.slice (some ⟨g2,0,none⟩) 0 0]) (fun w S=>aL w S _) ?_
 refine Y.ai (γ:=(Option Addr)×Nat×Int×Int×(List ByteArray)) (fun⟨aa,ab,n,z,o⟩=> [(4,.int .i64 n),(3,.slice aa o.length ab),(2,.string (⟨#[]⟩)),(0,.pointer (some ⟨g0,0,none⟩))]) (fun⟨aa,ab,n,z,o⟩=> [aH cT o [.slice aa o.length ab],bV g0 e0 s0 1 ((.slice Ac cd.length cc) :: (.int .i64 z) :: ac),aH bK ([1,1,2,2,3,0]:(List Int)) [.slice (some ⟨g3,0,none⟩) 6 6],bV g2 9 1 0 []]) (fun⟨aa,ab,n,z,o⟩=>(0≤n∧n≤3)∧(a≤z∧z+n≤a+5)∧(∀s,s∈o→aV s=0)∧(o.length:Int)+n≤3) (fun⟨aa,ab,n,z,o⟩=>n.toNat) ((some ⟨g2,0,none⟩),0,m5,(a+1),[]) ⟨by omega,by omega,fun s h=>absurd h (by simp),by simp only [List.length_nil];omega⟩ (.c .z (.c .g4 (.c .g6 (.c .g7 .n)))) (fun _ h=>h.sel (.c .z (.c .z (.c .z (.c .z .n))))) ?_
 rintro⟨aa,ab,n,z,o⟩ ⟨hn,hz,ho,hol⟩
 refine Y.seq (Y.seq (Y.region (Y.mv rfl .z (Y.ql rfl (fI rfl (.t .z) .c) (Y.nt ?_)))))
 refine Y.u (.t .z) (fun b7=> ?_) (fun b7=> ?_)
 refine Y.skip (Y.g (Y.seq (Y.block (Y.region (Y.mv rfl .g3 (Y.mv rfl .g6 ?_))))))
 refine Y.cl rfl rfl Tryz.func89 rfl rfl (bG (.t .z)) (.c .g1 .n) (fun _ _ hs tr=>aKl (tr.ctx hcd) hs (by omega)) ?_
 rintro _ _ ⟨t8,ad,rfl,rfl⟩
 refine Y.m (.c .n) ?_
 have ak:=(oU ad).1
 refine Y.el rfl (aQ (cs:= [.string t8]) rfl eQ (inz jK) (by decide) (pv1 (.t .z)) rfl rfl (by decide) rfl rfl) ?_
 rintro _ _ ⟨g10,rfl,rfl⟩
 refine Y.add (c:=aH pQ t8 [.string t8]) (fun _ _=>⟨rfl,by first | assumption | omega⟩) ?_
 refine Y.el rfl (dK rfl eQ jK rfl (.t .g3) (.t .z) (.c .g3 (.c .g1 (.c .z .n))) (by first | omega |(simp <;> omega)) (by first | omega |(simp <;> omega))) ?_
 rintro _ _ rfl
 refine Y.h (WS.a .z) ?_
 rintro⟨ae,af,rfl,ag,ah,ai⟩
 refine Y.er .g8 (Y.as rfl .z (Y.nil (Y.ab (Y.g (Y.region (Y.mv rfl .g8 ?_))))))
 refine Y.ql rfl (iT (c:=n - 1) rfl (.t .z) .c (wr (by omega) (by omega) (by omega))) ?_
 refine Y.er .g10 (Y.as rfl .z (Y.nil ?_))
 refine Y.ae (ae,af,n - 1,(z+1),o++ [t8]) ⟨by omega,by omega,(fun s h=>(List.mem_append.1 h).elim (ho s) (fun h=>by obtain rfl:=List.mem_singleton.1 h;assumption)),by simp only [List.length_append,List.length_cons,List.length_nil];omega⟩ (by first | omega |(dsimp only;omega)) (.c .z (.c .g3 (.c .g11 (.c .g12 .n)))) (fun _ h=>h.sel (.c .z (.c .z (.c .z (.c .z .n)))))
 refine Y.exit (Y.y (Y.y (Y.ag (Y.g (Y.seq (Y.region (Y.mv rfl .g3 ?_)))))))
 refine Y.cl rfl rfl Tryz.func117 rfl rfl (bG (.t .z)) .n (fun _ _ hs tr=>aL2 (tr.own .z) (by exact ho) (by omega)) ?_
 rintro _ _ ⟨rfl,rfl⟩
 refine Y.m .n ?_
 refine Y.er .g6 (Y.as rfl .z (Y.nt (Y.ret ?_)))
 refine Y.i (aU rfl .z) (.c .g1 .n) ?_
 exact⟨_,_,⟨by have:=mD ho;omega,by omega,by omega⟩,rfl,rfl⟩

end Go.Proofs.YtmejbfmhaoilmaaGreatDoor

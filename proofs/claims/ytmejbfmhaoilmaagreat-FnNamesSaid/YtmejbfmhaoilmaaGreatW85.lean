/- What is proved: contracts of functions, one a function. No condition. -/
import Derived.Test.YtmejbfmhaoilmaaGreatBase1
import Derived.Test.YtmejbfmhaoilmaaGreatW82
import Derived.Test.YtmejbfmhaoilmaaGreatW83
import Derived.Test.YtmejbfmhaoilmaaGreatW84
namespace Go.Proofs.YtmejbfmhaoilmaaGreat
open Go Go.RowKit
set_option linter.unusedVariables false
set_option linter.unusedSimpArgs false
set_option maxHeartbeats 1000000
set_option maxRecDepth 20000
theorem xY {w0:World}{S0:Bs}{f:DFs}{cm:List Value} (h0:eU.ro w0 (FF w0 S0) f cm) {c:oW}{cn:List Value} (h1:vK.ro w0 (FF w0 S0) c cn) {b:(List Int)}{v2:Value} (h2:bY.ro w0 (FF w0 S0) b [v2]) (hj:Jf f):
    Calls Tryz.prog 132 #[.agg cm.toArray,.agg cn.toArray,v2] w0 (aJ w0 S0 (fun r l=>∃x:eJ,Jf x.fs∧sA x r l)):=by
 obtain⟨gh,gi,rfl,aa,ab⟩:=cY h0
 obtain⟨an,ao,rfl,co,cp,cq,cr⟩:=aH aa
 obtain⟨ap,aq,rfl,ct,cu,cv,cw⟩:=aH ab
 obtain⟨gj,rfl,af,gk,gl⟩:=sK h1
 obtain⟨ar,au,rfl,cx,cy,cz,c0⟩:=aH af
 obtain⟨A2,c2,rfl,i2,i3,i4,i5⟩:=aH h2
 refine Y.enter (N:=54) Tryz.func132 rfl rfl (by simp) [(0,.agg #[.slice an f.inodes.length ao,.slice ap f.data.length aq]),(1,.agg #[.int .i64 c.kind,.string c.path,.string c.to,.int .i64 c.frm,.int .i64 c.size,.slice ar c.data.length au]),(2,.slice A2 b.length c2)] (by simp) (l0:= []) trivial ?_
 refine Y.seq (Y.region ?_)
 refine Y.el rfl (fT (cs:= [.slice an f.inodes.length ao,.slice ap f.data.length aq]) (n:=2) rfl (.t .z) rfl rfl) ?_
 rintro _ _ ⟨g5,rfl,rfl⟩
 refine Y.el rfl (fT (cs:= [.int .i64 c.kind,.string c.path,.string c.to,.int .i64 c.frm,.int .i64 c.size,.slice ar c.data.length au]) (n:=6) rfl (.t .g2) rfl rfl) ?_
 rintro _ _ ⟨g6,rfl,rfl⟩
 refine Y.el rfl (bL rfl tP rfl rfl) ?_
 rintro _ _ ⟨g7,rfl,rfl⟩
 refine Y.nt (Y.seq (Y.seq (Y.region (Y.fa rfl .g1 pX (Y.ld rfl cF .z .g1 (Y.nt ?_))))))
 refine Y.block (Y.seq (Y.region (Y.ql rfl (bZ rfl (.t .z) .c) (Y.as rfl .z (Y.nt ?_)))))
 refine Y.u (.t .z) (fun b8=> ?_) (fun b8=> ?_)
 refine Y.seq (Y.region (Y.ql rfl (qW rfl bI (.t .g6) .g2 aW) (Y.fa rfl .g6 nB (Y.ld rfl iR .z .g1 ?_))))
 refine Y.cl rfl rfl Tryz.func155 rfl rfl (dX (.t .g2) (.t .z) .c) .n (fun _ _ hs tr=>aKa (aM f (tr.ctx aa) (tr.ctx ab)) _ (by first | assumption | omega) _ (by assumption) (by omega)) ?_
 rintro _ _ ⟨am,c1,i6,i7,i8,i9,rfl,rfl⟩
 refine Y.m (.c (.c (.c (.c .n)))) ?_
 refine Y.h (WS.a .z) ?_
 rintro⟨gm,gn,rfl,c3,c4,c5⟩
 refine Y.h (WS.a .g1) ?_
 rintro⟨go,gp,rfl,c6,c7,c8⟩
 refine Y.h (WS.a .g2) ?_
 rintro⟨gq,gr,rfl,c9,da,db⟩
 refine Y.h (WS.a .g3) ?_
 rintro⟨gs,gt,rfl,dc,dd,dg⟩
 refine Y.es (aD rfl) rfl (esW rfl (.t .g8) (.t .z) .g4 bG rfl rfl) ?_
 refine Y.nt (Y.ret (Y.y (Y.r ?_)))
 refine Y.i (dD rfl .g8 dS .z bG) (.c .g1 (.c .g1 (.c .g1 (.c .g1 .n)))) ?_
 exact⟨(⟨am.code,am.reply,am.val,am.bytes,am.names,(⟨am.fs.inodes,am.fs.data⟩:DFs)⟩:eJ),(by first | exact hj | assumption),_,_,_,_,rfl,rfl⟩
 refine Y.seq (Y.region (Y.ql rfl (bZ rfl (.t .g2) .c) (Y.as rfl .z (Y.nt ?_))))
 refine Y.u (.t .z) (fun gu=> ?_) (fun gu=> ?_)
 refine Y.seq (Y.region (Y.ql rfl (qW rfl bI (.t .g8) .g2 aW) (Y.fa rfl .g8 nB (Y.ld rfl iR .z .g1 ?_))))
 refine Y.cl rfl rfl Tryz.func155 rfl rfl (dX (.t .g2) (.t .z) .c) .n (fun _ _ hs tr=>aKa (aM f (tr.ctx aa) (tr.ctx ab)) _ (by first | assumption | omega) _ (by assumption) (by omega)) ?_
 rintro _ _ ⟨ag,ay,ja,jb,jc,jd,rfl,rfl⟩
 refine Y.m (.c (.c (.c (.c .n)))) ?_
 refine Y.h (WS.a .z) ?_
 rintro⟨gv,gw,rfl,dh,di,dj⟩
 refine Y.h (WS.a .g1) ?_
 rintro⟨gx,gy,rfl,dp,ds,dt⟩
 refine Y.h (WS.a .g2) ?_
 rintro⟨gz,g0,rfl,du,dv,dw⟩
 refine Y.h (WS.a .g3) ?_
 rintro⟨ha,hb,rfl,dx,dy,dz⟩
 refine Y.es (aD rfl) rfl (esW rfl (.t .g10) (.t .z) .g4 bG rfl rfl) ?_
 refine Y.nt (Y.ret (Y.y (Y.r ?_)))
 refine Y.i (dD rfl .g10 dS .z bG) (.c .g1 (.c .g1 (.c .g1 (.c .g1 .n)))) ?_
 exact⟨(⟨ag.code,ag.reply,ag.val,ag.bytes,ag.names,(⟨ag.fs.inodes,ag.fs.data⟩:DFs)⟩:eJ),(by first | exact hj | assumption),_,_,_,_,rfl,rfl⟩
 refine Y.seq (Y.seq (Y.region (Y.ql rfl (bZ rfl (.t .g4) .c) (Y.as rfl .z (Y.nt ?_)))))
 refine Y.u (.t .z) (fun hc=> ?_) (fun hc=> ?_)
 refine Y.skip (Y.g ?_)
 refine Y.u (.t .z) (fun hd=> ?_) (fun hd=> ?_)
 refine Y.seq (Y.region (Y.ql rfl (qW rfl bI (.t .g10) .g2 aW) (Y.ql rfl (qW rfl jO (.t .g10) .g1 fZ) (Y.mv rfl .g15 ?_))))
 refine Y.cl rfl rfl Tryz.func156 rfl rfl (dX (.t .g2) (.t .g1) (.t .z)) .n (fun _ _ hs tr=>aGg (aM f (tr.ctx aa) (tr.ctx ab)) (iM c (tr.ctx af) (by assumption) (by assumption)) (tr.ctx h2) (by assumption)) ?_
 rintro _ _ ⟨ah,az,je,jf,jg,jh,rfl,rfl⟩
 refine Y.m (.c (.c (.c (.c .n)))) ?_
 refine Y.h (WS.a .z) ?_
 rintro⟨he,hf,rfl,d0,d1,d2⟩
 refine Y.h (WS.a .g1) ?_
 rintro⟨hg,hh,rfl,d3,d4,d5⟩
 refine Y.h (WS.a .g2) ?_
 rintro⟨hi,hk,rfl,d6,d7,d8⟩
 refine Y.h (WS.a .g3) ?_
 rintro⟨hl,hm,rfl,d9,ea,eb⟩
 refine Y.es (aD rfl) rfl (esW rfl (.t .g12) (.t .z) .g4 bG rfl rfl) ?_
 refine Y.nt (Y.ret (Y.y (Y.r ?_)))
 refine Y.i (dD rfl .g12 dS .z bG) (.c .g1 (.c .g1 (.c .g1 (.c .g1 .n)))) ?_
 exact⟨(⟨ah.code,ah.reply,ah.val,ah.bytes,ah.names,(⟨ah.fs.inodes,ah.fs.data⟩:DFs)⟩:eJ),(by first | exact hj | assumption),_,_,_,_,rfl,rfl⟩
 exfalso;first | omega | contradiction
 refine Y.seq (Y.region (Y.ql rfl (bZ rfl (.t .g6) .c) (Y.er .g1 (Y.as rfl .z (Y.nt ?_)))))
 refine Y.u (.t .z) (fun hn=> ?_) (fun hn=> ?_)
 refine Y.skip (Y.g ?_)
 refine Y.u (.t .z) (fun ho=> ?_) (fun ho=> ?_)
 refine Y.seq (Y.region (Y.ql rfl (qW rfl bI (.t .g11) .g2 aW) (Y.ql rfl (qW rfl jO (.t .g11) .g1 fZ) (Y.mv rfl .g16 ?_))))
 refine Y.cl rfl rfl Tryz.func156 rfl rfl (dX (.t .g2) (.t .g1) (.t .z)) .n (fun _ _ hs tr=>aGg (aM f (tr.ctx aa) (tr.ctx ab)) (iM c (tr.ctx af) (by assumption) (by assumption)) (tr.ctx h2) (by assumption)) ?_
 rintro _ _ ⟨ai,a0,ji,jj,jk,jl,rfl,rfl⟩
 refine Y.m (.c (.c (.c (.c .n)))) ?_
 refine Y.h (WS.a .z) ?_
 rintro⟨hp,hq,rfl,ec,ed,ee⟩
 refine Y.h (WS.a .g1) ?_
 rintro⟨hr,ht,rfl,ef,eg,eh⟩
 refine Y.h (WS.a .g2) ?_
 rintro⟨hu,hv,rfl,ei,ej,ek⟩
 refine Y.h (WS.a .g3) ?_
 rintro⟨hw,hx,rfl,em,en,eo⟩
 refine Y.es (aD rfl) rfl (esW rfl (.t .g13) (.t .z) .g4 bG rfl rfl) ?_
 refine Y.nt (Y.ret (Y.y (Y.r ?_)))
 refine Y.i (dD rfl .g13 dS .z bG) (.c .g1 (.c .g1 (.c .g1 (.c .g1 .n)))) ?_
 exact⟨(⟨ai.code,ai.reply,ai.val,ai.bytes,ai.names,(⟨ai.fs.inodes,ai.fs.data⟩:DFs)⟩:eJ),(by first | exact hj | assumption),_,_,_,_,rfl,rfl⟩
 exfalso;first | omega | contradiction
 refine Y.region (Y.ql rfl (bZ rfl (.t .g7) .c) (Y.er .g1 (Y.as rfl .z (Y.nt ?_))))
 refine Y.u (.t .z) (fun hy=> ?_) (fun hy=> ?_)
 refine Y.seq (Y.region (Y.ql rfl (qW rfl bI (.t .g12) .g2 aW) (Y.ql rfl (qW rfl jO (.t .g12) .g1 fZ) (Y.mv rfl (.s16 .g1) ?_))))
 refine Y.cl rfl rfl Tryz.func156 rfl rfl (dX (.t .g2) (.t .g1) (.t .z)) .n (fun _ _ hs tr=>aGg (aM f (tr.ctx aa) (tr.ctx ab)) (iM c (tr.ctx af) (by assumption) (by assumption)) (tr.ctx h2) (by assumption)) ?_
 rintro _ _ ⟨aj,a1,jm,jn,jo,jp,rfl,rfl⟩
 refine Y.m (.c (.c (.c (.c .n)))) ?_
 refine Y.h (WS.a .z) ?_
 rintro⟨hz,h3,rfl,ep,et,eu⟩
 refine Y.h (WS.a .g1) ?_
 rintro⟨h4,h5,rfl,ew,ey,ez⟩
 refine Y.h (WS.a .g2) ?_
 rintro⟨h6,h7,rfl,e0,e1,e2⟩
 refine Y.h (WS.a .g3) ?_
 rintro⟨h8,h9,rfl,e3,e4,e5⟩
 refine Y.es (aD rfl) rfl (esW rfl (.t .g14) (.t .z) .g4 bG rfl rfl) ?_
 refine Y.nt (Y.ret (Y.y (Y.r ?_)))
 refine Y.i (dD rfl .g14 dS .z bG) (.c .g1 (.c .g1 (.c .g1 (.c .g1 .n)))) ?_
 exact⟨(⟨aj.code,aj.reply,aj.val,aj.bytes,aj.names,(⟨aj.fs.inodes,aj.fs.data⟩:DFs)⟩:eJ),(by first | exact hj | assumption),_,_,_,_,rfl,rfl⟩
 refine Y.seq (Y.seq (Y.region (Y.ql rfl (bZ rfl (.t .g8) .c) (Y.as rfl .z (Y.nt ?_)))))
 refine Y.u (.t .z) (fun ia=> ?_) (fun ia=> ?_)
 refine Y.skip (Y.g ?_)
 refine Y.u (.t .z) (fun ib=> ?_) (fun ib=> ?_)
 refine Y.seq (Y.region (Y.ql rfl (qW rfl bI (.t .g14) .g2 aW) (Y.ql rfl (qW rfl jO (.t .g14) .g1 fZ) ?_)))
 refine Y.cl rfl rfl Tryz.func157 rfl rfl (aX (.t .g1) (.t .z)) .n (fun _ _ hs tr=>aJ4 (aM f (tr.ctx aa) (tr.ctx ab)) (iM c (tr.ctx af) (by assumption) (by assumption)) (by assumption)) ?_
 rintro _ _ ⟨ak,a2,jq,jr,js,jt,rfl,rfl⟩
 refine Y.m (.c (.c (.c (.c .n)))) ?_
 refine Y.h (WS.a .z) ?_
 rintro⟨ic,id,rfl,e7,e8,e9⟩
 refine Y.h (WS.a .g1) ?_
 rintro⟨ie,ig,rfl,fb,fc,fd⟩
 refine Y.h (WS.a .g2) ?_
 rintro⟨ih,ii,rfl,fe,ff,fg⟩
 refine Y.h (WS.a .g3) ?_
 rintro⟨ij,ik,rfl,fh,fi,fj⟩
 refine Y.es (aD rfl) rfl (esW rfl (.t .g15) (.t .z) .g4 bG rfl rfl) ?_
 refine Y.nt (Y.ret (Y.y (Y.r ?_)))
 refine Y.i (dD rfl .g15 dS .z bG) (.c .g1 (.c .g1 (.c .g1 (.c .g1 .n)))) ?_
 exact⟨(⟨ak.code,ak.reply,ak.val,ak.bytes,ak.names,(⟨ak.fs.inodes,ak.fs.data⟩:DFs)⟩:eJ),(by first | exact hj | assumption),_,_,_,_,rfl,rfl⟩
 exfalso;first | omega | contradiction
 refine Y.region (Y.ql rfl (bZ rfl (.t .g10) .c) (Y.er .g1 (Y.as rfl .z (Y.nt ?_))))
 refine Y.u (.t .z) (fun il=> ?_) (fun il=> ?_)
 refine Y.seq (Y.region (Y.ql rfl (qW rfl bI (.t .g15) .g2 aW) (Y.ql rfl (qW rfl jO (.t .g15) .g1 fZ) ?_)))
 refine Y.cl rfl rfl Tryz.func157 rfl rfl (aX (.t .g1) (.t .z)) .n (fun _ _ hs tr=>aJ4 (aM f (tr.ctx aa) (tr.ctx ab)) (iM c (tr.ctx af) (by assumption) (by assumption)) (by assumption)) ?_
 rintro _ _ ⟨al,a3,ju,jv,im,io,rfl,rfl⟩
 refine Y.m (.c (.c (.c (.c .n)))) ?_
 refine Y.h (WS.a .z) ?_
 rintro⟨fk,fl,rfl,a4,a5,a6⟩
 refine Y.h (WS.a .g1) ?_
 rintro⟨fm,fn,rfl,a7,a8,a9⟩
 refine Y.h (WS.a .g2) ?_
 rintro⟨fo,fp,rfl,ba,bb,bc⟩
 refine Y.h (WS.a .g3) ?_
 rintro⟨fq,fr,rfl,bd,be,bf⟩
 refine Y.es (aD rfl) rfl (esW rfl (.t .g16) (.t .z) .g4 bG rfl rfl) ?_
 refine Y.nt (Y.ret (Y.y (Y.r ?_)))
 refine Y.i (dD rfl .g16 dS .z bG) (.c .g1 (.c .g1 (.c .g1 (.c .g1 .n)))) ?_
 exact⟨(⟨al.code,al.reply,al.val,al.bytes,al.names,(⟨al.fs.inodes,al.fs.data⟩:DFs)⟩:eJ),(by first | exact hj | assumption),_,_,_,_,rfl,rfl⟩
 refine Y.seq (Y.region (Y.ql rfl (bZ rfl (.t .g11) .c) (Y.as rfl .z (Y.nt ?_))))
 refine Y.u (.t .z) (fun bg=> ?_) (fun bg=> ?_)
 refine Y.seq (Y.region (Y.ql rfl (qW rfl bI (.t (.s16 .g1)) .g2 aW) (Y.fa rfl (.s16 .g1) nB (Y.ld rfl iR .z .g1 (Y.fa rfl (.s16 .g3) aBw (Y.ld rfl iR .z .g1 ?_))))))
 refine Y.cl rfl rfl Tryz.func158 rfl rfl (dX (.t .g4) (.t .g2) (.t .z)) .n (fun _ _ hs tr=>aMl (aM f (tr.ctx aa) (tr.ctx ab)) _ (by first | assumption | omega) _ (by first | assumption | omega) (by assumption)) ?_
 rintro _ _ ⟨ac,av,ip,iq,ir,it,rfl,rfl⟩
 refine Y.m (.c (.c (.c (.c .n)))) ?_
 refine Y.h (WS.a .z) ?_
 rintro⟨ft,fu,rfl,bh,bi,bj⟩
 refine Y.h (WS.a .g1) ?_
 rintro⟨fv,fw,rfl,bk,bm,bn⟩
 refine Y.h (WS.a .g2) ?_
 rintro⟨fx,fy,rfl,bo,bp,bq⟩
 refine Y.h (WS.a .g3) ?_
 rintro⟨fz,f0,rfl,br,bs,bt⟩
 refine Y.es (aD rfl) rfl (esW rfl (.t (.s16 .g5)) (.t .z) .g4 bG rfl rfl) ?_
 refine Y.nt (Y.ret (Y.y (Y.r ?_)))
 refine Y.i (dD rfl (.s16 .g5) dS .z bG) (.c .g1 (.c .g1 (.c .g1 (.c .g1 .n)))) ?_
 exact⟨(⟨ac.code,ac.reply,ac.val,ac.bytes,ac.names,(⟨ac.fs.inodes,ac.fs.data⟩:DFs)⟩:eJ),(by first | exact hj | assumption),_,_,_,_,rfl,rfl⟩
 refine Y.seq (Y.region (Y.ql rfl (bZ rfl (.t .g13) .c) (Y.as rfl .z (Y.nt ?_))))
 refine Y.u (.t .z) (fun bu=> ?_) (fun bu=> ?_)
 refine Y.seq (Y.region (Y.ql rfl (qW rfl bI (.t (.s16 .g3)) .g2 aW) (Y.fa rfl (.s16 .g3) nB (Y.ld rfl iR .z .g1 (Y.fa rfl (.s16 .g5) aBw (Y.ld rfl iR .z .g1 ?_))))))
 refine Y.cl rfl rfl Tryz.func159 rfl rfl (dX (.t .g4) (.t .g2) (.t .z)) .n (fun _ _ hs tr=>aL1 (aM f (tr.ctx aa) (tr.ctx ab)) _ (by first | assumption | omega) _ (by first | assumption | omega) (by assumption)) ?_
 rintro _ _ ⟨ad,aw,iu,iv,iw,ix,rfl,rfl⟩
 refine Y.m (.c (.c (.c (.c .n)))) ?_
 refine Y.h (WS.a .z) ?_
 rintro⟨f1,f2,rfl,bv,bw,bx⟩
 refine Y.h (WS.a .g1) ?_
 rintro⟨f3,f4,rfl,bz,b0,b1⟩
 refine Y.h (WS.a .g2) ?_
 rintro⟨f5,f6,rfl,b2,b3,b4⟩
 refine Y.h (WS.a .g3) ?_
 rintro⟨f7,f8,rfl,b5,b6,b7⟩
 refine Y.es (aD rfl) rfl (esW rfl (.t (.s16 .g7)) (.t .z) .g4 bG rfl rfl) ?_
 refine Y.nt (Y.ret (Y.y (Y.r ?_)))
 refine Y.i (dD rfl (.s16 .g7) dS .z bG) (.c .g1 (.c .g1 (.c .g1 (.c .g1 .n)))) ?_
 exact⟨(⟨ad.code,ad.reply,ad.val,ad.bytes,ad.names,(⟨ad.fs.inodes,ad.fs.data⟩:DFs)⟩:eJ),(by first | exact hj | assumption),_,_,_,_,rfl,rfl⟩
 refine Y.skip (Y.ac (Y.g (Y.seq (Y.region (Y.ql rfl (qW rfl bI (.t (.s16 .g3)) .g2 aW) (Y.ql rfl (qW rfl jO (.t (.s16 .g3)) .g1 fZ) ?_))))))
 refine Y.cl rfl rfl Tryz.func160 rfl rfl (aX (.t .g1) (.t .z)) .n (fun _ _ hs tr=>aM9 (aM f (tr.ctx aa) (tr.ctx ab)) (iM c (tr.ctx af) (by assumption) (by assumption)) (by assumption)) ?_
 rintro _ _ ⟨ae,ax,iy,iz,i0,i1,rfl,rfl⟩
 refine Y.m (.c (.c (.c (.c .n)))) ?_
 refine Y.h (WS.a .z) ?_
 rintro⟨f9,ga,rfl,b9,ca,cb⟩
 refine Y.h (WS.a .g1) ?_
 rintro⟨gb,gc,rfl,cc,cd,ce⟩
 refine Y.h (WS.a .g2) ?_
 rintro⟨gd,ge,rfl,cf,cg,ch⟩
 refine Y.h (WS.a .g3) ?_
 rintro⟨gf,gg,rfl,ci,cj,ck⟩
 refine Y.es (aD rfl) rfl (esW rfl (.t (.s16 .g4)) (.t .z) .g4 bG rfl rfl) ?_
 refine Y.nt (Y.ret ?_)
 refine Y.i (dD rfl (.s16 .g4) dS .z bG) (.c .g1 (.c .g1 (.c .g1 (.c .g1 .n)))) ?_
 exact⟨(⟨ae.code,ae.reply,ae.val,ae.bytes,ae.names,(⟨ae.fs.inodes,ae.fs.data⟩:DFs)⟩:eJ),(by first | exact hj | assumption),_,_,_,_,rfl,rfl⟩

end Go.Proofs.YtmejbfmhaoilmaaGreat

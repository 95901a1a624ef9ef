/- What is proved: contracts of functions, one a function. No condition. -/
import Derived.Test.YtmejbfmhaoilmaaGreatBase1
import Derived.Test.YtmejbfmhaoilmaaGreatW82
import Derived.Test.YtmejbfmhaoilmaaGreatW83
import Derived.Test.YtmejbfmhaoilmaaGreatW84
namespace Go.Proofs.YtmejbfmhaoilmaaGreat
open Go Go.RowKit
set_option linter.unusedVariables false
set_option linter.unusedSimpArgs false
set_option maxHeartbeats 1000000
set_option maxRecDepth 20000
theorem wJ {w0:World}{S0:Bs}{f:DFs}{cm:List Value} (h0:eS.ro w0 (FF w0 S0) f cm) {c:oP}{cn:List Value} (h1:uD.ro w0 (FF w0 S0) c cn) {b:(List Int)}{v2:Value} (h2:aY.ro w0 (FF w0 S0) b [v2]) (hj:Jf f):
    Calls Tryz.prog 132 #[.agg cm.toArray,.agg cn.toArray,v2] w0 (aI w0 S0 (fun r l=>∃x:eB,Jf x.fs∧rI x r l)):=by
 obtain⟨gg,gh,rfl,aa,ab⟩:=cQ h0
 obtain⟨an,ao,rfl,co,cp,cq,cr⟩:=aD aa
 obtain⟨ap,aq,rfl,ct,cu,cv,cw⟩:=aD ab
 obtain⟨gi,rfl,af,gj,gk⟩:=rU h1
 obtain⟨ar,au,rfl,cx,cy,cz,c0⟩:=aD af
 obtain⟨A2,c2,rfl,i1,i2,i3,i4⟩:=aD h2
 refine Y.enter (N:=54) Tryz.func132 rfl rfl (by simp) [(0,.agg #[.slice an f.inodes.length ao,.slice ap f.data.length aq]),(1,.agg #[.int .i64 c.kind,.string c.path,.string c.to,.int .i64 c.frm,.int .i64 c.size,.slice ar c.data.length au]),(2,.slice A2 b.length c2)] (by simp) (l0:= []) trivial ?_
 refine Y.seq (Y.region ?_)
 refine Y.el rfl (fR (cs:= [.slice an f.inodes.length ao,.slice ap f.data.length aq]) (n:=2) rfl (.t .z) rfl rfl) ?_
 rintro _ _ ⟨g5,rfl,rfl⟩
 refine Y.el rfl (fR (cs:= [.int .i64 c.kind,.string c.path,.string c.to,.int .i64 c.frm,.int .i64 c.size,.slice ar c.data.length au]) (n:=6) rfl (.t .g2) rfl rfl) ?_
 rintro _ _ ⟨g6,rfl,rfl⟩
 refine Y.el rfl (bD rfl tA rfl rfl) ?_
 rintro _ _ ⟨g7,rfl,rfl⟩
 refine Y.nt (Y.seq (Y.seq (Y.region (Y.fa rfl .g1 pD (Y.ld rfl bR .z .g1 (Y.nt ?_))))))
 refine Y.block (Y.seq (Y.region (Y.ql rfl (bP rfl (.t .z) .c) (Y.as rfl .z (Y.nt ?_)))))
 refine Y.u (.t .z) (fun b8=> ?_) (fun b8=> ?_)
 refine Y.seq (Y.region (Y.ql rfl (qW rfl bN (.t .g6) .g2 aX) (Y.fa rfl .g6 mY (Y.ld rfl kP .z .g1 ?_))))
 refine Y.cl rfl rfl Tryz.func155 rfl rfl (eQ (.t .g2) (.t .z) .c) .n (fun _ _ hs tr=>aI3 (aM f (tr.ctx aa) (tr.ctx ab)) _ (by first | assumption | omega) _ (by assumption) (by omega)) ?_
 rintro _ _ ⟨am,c1,i5,i6,i7,i8,rfl,rfl⟩
 refine Y.r (.c (.c (.c (.c .n)))) ?_
 refine Y.i (WS.a .z) ?_
 rintro⟨gl,gm,rfl,c3,c4,c5⟩
 refine Y.i (WS.a .g1) ?_
 rintro⟨gn,go,rfl,c6,c7,c8⟩
 refine Y.i (WS.a .g2) ?_
 rintro⟨gp,gq,rfl,c9,da,db⟩
 refine Y.i (WS.a .g3) ?_
 rintro⟨gr,gs,rfl,dc,dd,dg⟩
 refine Y.es (aE rfl) rfl (esW rfl (.t .g8) (.t .z) .g4 bA rfl rfl) ?_
 refine Y.nt (Y.ret (Y.v (Y.m ?_)))
 refine Y.j (dA rfl .g8 dO .z bA) (.c .g1 (.c .g1 (.c .g1 (.c .g1 .n)))) ?_
 exact⟨(⟨am.code,am.reply,am.val,am.bytes,am.names,(⟨am.fs.inodes,am.fs.data⟩:DFs)⟩:eB),(by first | exact hj | assumption),_,_,_,_,rfl,rfl⟩
 refine Y.seq (Y.region (Y.ql rfl (bP rfl (.t .g2) .c) (Y.as rfl .z (Y.nt ?_))))
 refine Y.u (.t .z) (fun gt=> ?_) (fun gt=> ?_)
 refine Y.seq (Y.region (Y.ql rfl (qW rfl bN (.t .g8) .g2 aX) (Y.fa rfl .g8 mY (Y.ld rfl kP .z .g1 ?_))))
 refine Y.cl rfl rfl Tryz.func155 rfl rfl (eQ (.t .g2) (.t .z) .c) .n (fun _ _ hs tr=>aI3 (aM f (tr.ctx aa) (tr.ctx ab)) _ (by first | assumption | omega) _ (by assumption) (by omega)) ?_
 rintro _ _ ⟨ag,ay,i9,ja,jb,jc,rfl,rfl⟩
 refine Y.r (.c (.c (.c (.c .n)))) ?_
 refine Y.i (WS.a .z) ?_
 rintro⟨gu,gv,rfl,dh,di,dj⟩
 refine Y.i (WS.a .g1) ?_
 rintro⟨gw,gx,rfl,dp,ds,dt⟩
 refine Y.i (WS.a .g2) ?_
 rintro⟨gy,gz,rfl,du,dv,dw⟩
 refine Y.i (WS.a .g3) ?_
 rintro⟨g0,ha,rfl,dx,dy,dz⟩
 refine Y.es (aE rfl) rfl (esW rfl (.t .g10) (.t .z) .g4 bA rfl rfl) ?_
 refine Y.nt (Y.ret (Y.v (Y.m ?_)))
 refine Y.j (dA rfl .g10 dO .z bA) (.c .g1 (.c .g1 (.c .g1 (.c .g1 .n)))) ?_
 exact⟨(⟨ag.code,ag.reply,ag.val,ag.bytes,ag.names,(⟨ag.fs.inodes,ag.fs.data⟩:DFs)⟩:eB),(by first | exact hj | assumption),_,_,_,_,rfl,rfl⟩
 refine Y.seq (Y.seq (Y.region (Y.ql rfl (bP rfl (.t .g4) .c) (Y.as rfl .z (Y.nt ?_)))))
 refine Y.u (.t .z) (fun hb=> ?_) (fun hb=> ?_)
 refine Y.skip (Y.g ?_)
 refine Y.u (.t .z) (fun hc=> ?_) (fun hc=> ?_)
 refine Y.seq (Y.region (Y.ql rfl (qW rfl bN (.t .g10) .g2 aX) (Y.ql rfl (qW rfl jK (.t .g10) .g1 fT) (Y.mv rfl .g15 ?_))))
 refine Y.cl rfl rfl Tryz.func156 rfl rfl (eQ (.t .g2) (.t .g1) (.t .z)) .n (fun _ _ hs tr=>aGl (aM f (tr.ctx aa) (tr.ctx ab)) (iI c (tr.ctx af) (by assumption) (by assumption)) (tr.ctx h2) (by assumption)) ?_
 rintro _ _ ⟨ah,az,jd,je,jf,jg,rfl,rfl⟩
 refine Y.r (.c (.c (.c (.c .n)))) ?_
 refine Y.i (WS.a .z) ?_
 rintro⟨hd,he,rfl,d0,d1,d2⟩
 refine Y.i (WS.a .g1) ?_
 rintro⟨hf,hg,rfl,d3,d4,d5⟩
 refine Y.i (WS.a .g2) ?_
 rintro⟨hh,hi,rfl,d6,d7,d8⟩
 refine Y.i (WS.a .g3) ?_
 rintro⟨hk,hl,rfl,d9,ea,eb⟩
 refine Y.es (aE rfl) rfl (esW rfl (.t .g12) (.t .z) .g4 bA rfl rfl) ?_
 refine Y.nt (Y.ret (Y.v (Y.m ?_)))
 refine Y.j (dA rfl .g12 dO .z bA) (.c .g1 (.c .g1 (.c .g1 (.c .g1 .n)))) ?_
 exact⟨(⟨ah.code,ah.reply,ah.val,ah.bytes,ah.names,(⟨ah.fs.inodes,ah.fs.data⟩:DFs)⟩:eB),(by first | exact hj | assumption),_,_,_,_,rfl,rfl⟩
 exfalso;first | omega | contradiction
 refine Y.seq (Y.region (Y.ql rfl (bP rfl (.t .g6) .c) (Y.er .g1 (Y.as rfl .z (Y.nt ?_)))))
 refine Y.u (.t .z) (fun hm=> ?_) (fun hm=> ?_)
 refine Y.skip (Y.g ?_)
 refine Y.u (.t .z) (fun hn=> ?_) (fun hn=> ?_)
 refine Y.seq (Y.region (Y.ql rfl (qW rfl bN (.t .g11) .g2 aX) (Y.ql rfl (qW rfl jK (.t .g11) .g1 fT) (Y.mv rfl .g16 ?_))))
 refine Y.cl rfl rfl Tryz.func156 rfl rfl (eQ (.t .g2) (.t .g1) (.t .z)) .n (fun _ _ hs tr=>aGl (aM f (tr.ctx aa) (tr.ctx ab)) (iI c (tr.ctx af) (by assumption) (by assumption)) (tr.ctx h2) (by assumption)) ?_
 rintro _ _ ⟨ai,a0,jh,ji,jj,jk,rfl,rfl⟩
 refine Y.r (.c (.c (.c (.c .n)))) ?_
 refine Y.i (WS.a .z) ?_
 rintro⟨ho,hp,rfl,ec,ed,ee⟩
 refine Y.i (WS.a .g1) ?_
 rintro⟨hq,hr,rfl,ef,eg,eh⟩
 refine Y.i (WS.a .g2) ?_
 rintro⟨ht,hu,rfl,ei,ej,ek⟩
 refine Y.i (WS.a .g3) ?_
 rintro⟨hv,hw,rfl,em,en,eo⟩
 refine Y.es (aE rfl) rfl (esW rfl (.t .g13) (.t .z) .g4 bA rfl rfl) ?_
 refine Y.nt (Y.ret (Y.v (Y.m ?_)))
 refine Y.j (dA rfl .g13 dO .z bA) (.c .g1 (.c .g1 (.c .g1 (.c .g1 .n)))) ?_
 exact⟨(⟨ai.code,ai.reply,ai.val,ai.bytes,ai.names,(⟨ai.fs.inodes,ai.fs.data⟩:DFs)⟩:eB),(by first | exact hj | assumption),_,_,_,_,rfl,rfl⟩
 exfalso;first | omega | contradiction
 refine Y.region (Y.ql rfl (bP rfl (.t .g7) .c) (Y.er .g1 (Y.as rfl .z (Y.nt ?_))))
 refine Y.u (.t .z) (fun hx=> ?_) (fun hx=> ?_)
 refine Y.seq (Y.region (Y.ql rfl (qW rfl bN (.t .g12) .g2 aX) (Y.ql rfl (qW rfl jK (.t .g12) .g1 fT) (Y.mv rfl (.s16 .g1) ?_))))
 refine Y.cl rfl rfl Tryz.func156 rfl rfl (eQ (.t .g2) (.t .g1) (.t .z)) .n (fun _ _ hs tr=>aGl (aM f (tr.ctx aa) (tr.ctx ab)) (iI c (tr.ctx af) (by assumption) (by assumption)) (tr.ctx h2) (by assumption)) ?_
 rintro _ _ ⟨aj,a1,jl,jm,jn,jo,rfl,rfl⟩
 refine Y.r (.c (.c (.c (.c .n)))) ?_
 refine Y.i (WS.a .z) ?_
 rintro⟨hy,hz,rfl,ep,et,eu⟩
 refine Y.i (WS.a .g1) ?_
 rintro⟨h3,h4,rfl,ev,ew,ey⟩
 refine Y.i (WS.a .g2) ?_
 rintro⟨h5,h6,rfl,ez,e0,e1⟩
 refine Y.i (WS.a .g3) ?_
 rintro⟨h7,h8,rfl,e2,e3,e4⟩
 refine Y.es (aE rfl) rfl (esW rfl (.t .g14) (.t .z) .g4 bA rfl rfl) ?_
 refine Y.nt (Y.ret (Y.v (Y.m ?_)))
 refine Y.j (dA rfl .g14 dO .z bA) (.c .g1 (.c .g1 (.c .g1 (.c .g1 .n)))) ?_
 exact⟨(⟨aj.code,aj.reply,aj.val,aj.bytes,aj.names,(⟨aj.fs.inodes,aj.fs.data⟩:DFs)⟩:eB),(by first | exact hj | assumption),_,_,_,_,rfl,rfl⟩
 refine Y.seq (Y.seq (Y.region (Y.ql rfl (bP rfl (.t .g8) .c) (Y.as rfl .z (Y.nt ?_)))))
 refine Y.u (.t .z) (fun h9=> ?_) (fun h9=> ?_)
 refine Y.skip (Y.g ?_)
 refine Y.u (.t .z) (fun ia=> ?_) (fun ia=> ?_)
 refine Y.seq (Y.region (Y.ql rfl (qW rfl bN (.t .g14) .g2 aX) (Y.ql rfl (qW rfl jK (.t .g14) .g1 fT) ?_)))
 refine Y.cl rfl rfl Tryz.func157 rfl rfl (aR (.t .g1) (.t .z)) .n (fun _ _ hs tr=>aI8 (aM f (tr.ctx aa) (tr.ctx ab)) (iI c (tr.ctx af) (by assumption) (by assumption)) (by assumption)) ?_
 rintro _ _ ⟨ak,a2,jp,jq,jr,js,rfl,rfl⟩
 refine Y.r (.c (.c (.c (.c .n)))) ?_
 refine Y.i (WS.a .z) ?_
 rintro⟨ib,ic,rfl,e5,e7,e8⟩
 refine Y.i (WS.a .g1) ?_
 rintro⟨id,ie,rfl,e9,fb,fc⟩
 refine Y.i (WS.a .g2) ?_
 rintro⟨ig,ih,rfl,fd,fe,ff⟩
 refine Y.i (WS.a .g3) ?_
 rintro⟨ii,ij,rfl,fg,fh,fi⟩
 refine Y.es (aE rfl) rfl (esW rfl (.t .g15) (.t .z) .g4 bA rfl rfl) ?_
 refine Y.nt (Y.ret (Y.v (Y.m ?_)))
 refine Y.j (dA rfl .g15 dO .z bA) (.c .g1 (.c .g1 (.c .g1 (.c .g1 .n)))) ?_
 exact⟨(⟨ak.code,ak.reply,ak.val,ak.bytes,ak.names,(⟨ak.fs.inodes,ak.fs.data⟩:DFs)⟩:eB),(by first | exact hj | assumption),_,_,_,_,rfl,rfl⟩
 exfalso;first | omega | contradiction
 refine Y.region (Y.ql rfl (bP rfl (.t .g10) .c) (Y.er .g1 (Y.as rfl .z (Y.nt ?_))))
 refine Y.u (.t .z) (fun ik=> ?_) (fun ik=> ?_)
 refine Y.seq (Y.region (Y.ql rfl (qW rfl bN (.t .g15) .g2 aX) (Y.ql rfl (qW rfl jK (.t .g15) .g1 fT) ?_)))
 refine Y.cl rfl rfl Tryz.func157 rfl rfl (aR (.t .g1) (.t .z)) .n (fun _ _ hs tr=>aI8 (aM f (tr.ctx aa) (tr.ctx ab)) (iI c (tr.ctx af) (by assumption) (by assumption)) (by assumption)) ?_
 rintro _ _ ⟨al,a3,jt,ju,il,im,rfl,rfl⟩
 refine Y.r (.c (.c (.c (.c .n)))) ?_
 refine Y.i (WS.a .z) ?_
 rintro⟨fj,fk,rfl,a4,a5,a6⟩
 refine Y.i (WS.a .g1) ?_
 rintro⟨fl,fm,rfl,a7,a8,a9⟩
 refine Y.i (WS.a .g2) ?_
 rintro⟨fn,fo,rfl,ba,bb,bc⟩
 refine Y.i (WS.a .g3) ?_
 rintro⟨fp,fq,rfl,bd,be,bf⟩
 refine Y.es (aE rfl) rfl (esW rfl (.t .g16) (.t .z) .g4 bA rfl rfl) ?_
 refine Y.nt (Y.ret (Y.v (Y.m ?_)))
 refine Y.j (dA rfl .g16 dO .z bA) (.c .g1 (.c .g1 (.c .g1 (.c .g1 .n)))) ?_
 exact⟨(⟨al.code,al.reply,al.val,al.bytes,al.names,(⟨al.fs.inodes,al.fs.data⟩:DFs)⟩:eB),(by first | exact hj | assumption),_,_,_,_,rfl,rfl⟩
 refine Y.seq (Y.region (Y.ql rfl (bP rfl (.t .g11) .c) (Y.as rfl .z (Y.nt ?_))))
 refine Y.u (.t .z) (fun bg=> ?_) (fun bg=> ?_)
 refine Y.seq (Y.region (Y.ql rfl (qW rfl bN (.t (.s16 .g1)) .g2 aX) (Y.fa rfl (.s16 .g1) mY (Y.ld rfl kP .z .g1 (Y.fa rfl (.s16 .g3) aB6 (Y.ld rfl kP .z .g1 ?_))))))
 refine Y.cl rfl rfl Tryz.func158 rfl rfl (eQ (.t .g4) (.t .g2) (.t .z)) .n (fun _ _ hs tr=>aMe (aM f (tr.ctx aa) (tr.ctx ab)) _ (by first | assumption | omega) _ (by first | assumption | omega) (by assumption)) ?_
 rintro _ _ ⟨ac,av,io,ip,iq,ir,rfl,rfl⟩
 refine Y.r (.c (.c (.c (.c .n)))) ?_
 refine Y.i (WS.a .z) ?_
 rintro⟨fr,ft,rfl,bh,bi,bj⟩
 refine Y.i (WS.a .g1) ?_
 rintro⟨fu,fv,rfl,bk,bm,bn⟩
 refine Y.i (WS.a .g2) ?_
 rintro⟨fw,fx,rfl,bo,bp,bq⟩
 refine Y.i (WS.a .g3) ?_
 rintro⟨fy,fz,rfl,br,bs,bt⟩
 refine Y.es (aE rfl) rfl (esW rfl (.t (.s16 .g5)) (.t .z) .g4 bA rfl rfl) ?_
 refine Y.nt (Y.ret (Y.v (Y.m ?_)))
 refine Y.j (dA rfl (.s16 .g5) dO .z bA) (.c .g1 (.c .g1 (.c .g1 (.c .g1 .n)))) ?_
 exact⟨(⟨ac.code,ac.reply,ac.val,ac.bytes,ac.names,(⟨ac.fs.inodes,ac.fs.data⟩:DFs)⟩:eB),(by first | exact hj | assumption),_,_,_,_,rfl,rfl⟩
 refine Y.seq (Y.region (Y.ql rfl (bP rfl (.t .g13) .c) (Y.as rfl .z (Y.nt ?_))))
 refine Y.u (.t .z) (fun bu=> ?_) (fun bu=> ?_)
 refine Y.seq (Y.region (Y.ql rfl (qW rfl bN (.t (.s16 .g3)) .g2 aX) (Y.fa rfl (.s16 .g3) mY (Y.ld rfl kP .z .g1 (Y.fa rfl (.s16 .g5) aB6 (Y.ld rfl kP .z .g1 ?_))))))
 refine Y.cl rfl rfl Tryz.func159 rfl rfl (eQ (.t .g4) (.t .g2) (.t .z)) .n (fun _ _ hs tr=>aMg (aM f (tr.ctx aa) (tr.ctx ab)) _ (by first | assumption | omega) _ (by first | assumption | omega) (by assumption)) ?_
 rintro _ _ ⟨ad,aw,it,iu,iv,iw,rfl,rfl⟩
 refine Y.r (.c (.c (.c (.c .n)))) ?_
 refine Y.i (WS.a .z) ?_
 rintro⟨f0,f1,rfl,bv,bw,bx⟩
 refine Y.i (WS.a .g1) ?_
 rintro⟨f2,f3,rfl,bz,b0,b1⟩
 refine Y.i (WS.a .g2) ?_
 rintro⟨f4,f5,rfl,b2,b3,b4⟩
 refine Y.i (WS.a .g3) ?_
 rintro⟨f6,f7,rfl,b5,b6,b7⟩
 refine Y.es (aE rfl) rfl (esW rfl (.t (.s16 .g7)) (.t .z) .g4 bA rfl rfl) ?_
 refine Y.nt (Y.ret (Y.v (Y.m ?_)))
 refine Y.j (dA rfl (.s16 .g7) dO .z bA) (.c .g1 (.c .g1 (.c .g1 (.c .g1 .n)))) ?_
 exact⟨(⟨ad.code,ad.reply,ad.val,ad.bytes,ad.names,(⟨ad.fs.inodes,ad.fs.data⟩:DFs)⟩:eB),(by first | exact hj | assumption),_,_,_,_,rfl,rfl⟩
 refine Y.skip (Y.y (Y.g (Y.seq (Y.region (Y.ql rfl (qW rfl bN (.t (.s16 .g3)) .g2 aX) (Y.ql rfl (qW rfl jK (.t (.s16 .g3)) .g1 fT) ?_))))))
 refine Y.cl rfl rfl Tryz.func160 rfl rfl (aR (.t .g1) (.t .z)) .n (fun _ _ hs tr=>aKh (aM f (tr.ctx aa) (tr.ctx ab)) (iI c (tr.ctx af) (by assumption) (by assumption)) (by assumption)) ?_
 rintro _ _ ⟨ae,ax,ix,iy,iz,i0,rfl,rfl⟩
 refine Y.r (.c (.c (.c (.c .n)))) ?_
 refine Y.i (WS.a .z) ?_
 rintro⟨f8,f9,rfl,b9,ca,cb⟩
 refine Y.i (WS.a .g1) ?_
 rintro⟨ga,gb,rfl,cc,cd,ce⟩
 refine Y.i (WS.a .g2) ?_
 rintro⟨gc,gd,rfl,cf,cg,ch⟩
 refine Y.i (WS.a .g3) ?_
 rintro⟨ge,gf,rfl,ci,cj,ck⟩
 refine Y.es (aE rfl) rfl (esW rfl (.t (.s16 .g4)) (.t .z) .g4 bA rfl rfl) ?_
 refine Y.nt (Y.ret ?_)
 refine Y.j (dA rfl (.s16 .g4) dO .z bA) (.c .g1 (.c .g1 (.c .g1 (.c .g1 .n)))) ?_
 exact⟨(⟨ae.code,ae.reply,ae.val,ae.bytes,ae.names,(⟨ae.fs.inodes,ae.fs.data⟩:DFs)⟩:eB),(by first | exact hj | assumption),_,_,_,_,rfl,rfl⟩

end Go.Proofs.YtmejbfmhaoilmaaGreat

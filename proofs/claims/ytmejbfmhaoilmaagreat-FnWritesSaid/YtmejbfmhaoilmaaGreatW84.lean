/- What is proved: contracts of functions, one a function. No condition. -/
import Derived.Test.YtmejbfmhaoilmaaGreatBase1
import Derived.Test.YtmejbfmhaoilmaaGreatW82
namespace Go.Proofs.YtmejbfmhaoilmaaGreat
open Go Go.RowKit
set_option linter.unusedVariables false
set_option linter.unusedSimpArgs false
set_option maxHeartbeats 1000000
set_option maxRecDepth 20000
theorem aLy {w0:World}{S0:Bs}{f:DFs}{ls:List Value} (h0:fD.ro w0 (FF w0 S0) f ls) (p:ByteArray) (so:p.size≤140737488351232) (q:ByteArray) (sp:q.size≤140737488351232) (hj:Jf f):
    Calls Tryz.prog 159 #[.agg ls.toArray,.string p,.string q] w0 (aJ w0 S0 (fun r l=>∃x:eD,Jf x.fs∧qK x r l)):=by
 obtain⟨px,py,rfl,ac,ad⟩:=cV h0
 obtain⟨dj,bu,rfl,lu,lv,lw,dp⟩:=aD ac
 obtain⟨bv,bw,rfl,lx,ly,lz,l1⟩:=aD ad
 have ht:J0 f:=hj.toJ0
 have sq:=hj.n.2
 have sr:=hj.n.1
 refine Y.enter (N:=156) Tryz.func159 rfl rfl (by simp) [(0,.agg #[.slice dj f.inodes.length bu,.slice bv f.data.length bw]),(1,.string p),(2,.string q)] (by simp) (l0:= []) trivial ?_
 refine Y.seq (Y.region ?_)
 refine Y.el rfl (gL (cs:= [.slice dj f.inodes.length bu,.slice bv f.data.length bw]) (n:=2) rfl (.t .z) rfl rfl) ?_
 rintro _ _ ⟨g3,rfl,rfl⟩
 refine Y.el rfl (bP rfl tE rfl rfl) ?_
 rintro _ _ ⟨g4,rfl,rfl⟩
 refine Y.nt (Y.seq (Y.region (Y.mv rfl .g3 ?_)))
 refine Y.cl rfl rfl Tryz.func171 rfl rfl (aR (.t .g2) (.t .z)) .n (fun _ _ hs tr=>xA (tr.ptr .g1 (aK f (tr.ctx ac) (tr.ctx ad))) _ (by first | assumption | omega |(dsimp only;omega)) (by assumption)) ?_
 rintro _ _ ⟨rfl,rfl⟩
 refine Y.m .n ?_
 have l2:=nQ (f:=f) (s:=p)
 have l3:=lR ht p
 refine Y.mv rfl .z (Y.ql rfl (bK (v:= .int .i64 ((aQ f p).1)) rfl (.t .z) rfl) (Y.ql rfl (bK (v:= .string ((aQ f p).2.1)) rfl (.t .g1) rfl) (Y.ql rfl (bK (v:= .int .i64 ((aQ f p).2.2)) rfl (.t .g2) rfl) (Y.as rfl .g2 (Y.as rfl .g2 (Y.as rfl .g2 (Y.nt ?_)))))))
 refine Y.seq (Y.seq (Y.region (Y.mv rfl .z (Y.ql rfl (bY rfl (.t .z) .c) (Y.nt ?_)))))
 refine Y.ac (.t .z) (fun b7=> ?_) (fun b7=> ?_)
 refine Y.seq (Y.region (Y.ql rfl (qW rfl bR (.t .g12) .g1 aX) (Y.mv rfl .g3 ?_)))
 refine Y.cl rfl rfl Tryz.func172 rfl rfl (aR (.t .g1) (.t .z)) .n (fun _ _ hs tr=>gY (aK f (tr.ctx ac) (tr.ctx ad)) _) ?_
 rintro _ _ ⟨v8,ss,st,su,rfl,rfl⟩
 refine Y.m (.c (.c (.c (.c .n)))) ?_
 refine Y.h (WS.a .z) ?_
 rintro⟨pz,p0,rfl,l4,l5,l6⟩
 refine Y.h (WS.a .g1) ?_
 rintro⟨p1,p2,rfl,l7,l8,l9⟩
 refine Y.h (WS.a .g2) ?_
 rintro⟨p3,p4,rfl,ma,mb,mc⟩
 refine Y.h (WS.a .g3) ?_
 rintro⟨p5,p6,rfl,md,me,mf⟩
 refine Y.es (aE rfl) rfl (esW rfl (.t .g14) (.t .z) .g4 bD rfl rfl) ?_
 refine Y.nt (Y.ret (Y.j ?_))
 refine Y.i (dF rfl .g14 dO .z bD) (.c .g1 (.c .g1 (.c .g1 (.c .g1 .n)))) ?_
 exact⟨(⟨0,((aQ f p).2.2),0,[],[],(⟨f.inodes,f.data⟩:DFs)⟩:eD),(by first | exact hj | assumption),_,_,_,_,rfl,rfl⟩
 refine Y.skip (Y.g (Y.seq (Y.region (Y.fa rfl .g12 aO (Y.ld rfl bT .z .g1 (Y.mv rfl .g6 ?_))))))
 obtain⟨ds,cw,au⟩:=dp (by omega)
 subst cw
 obtain⟨bx,bb⟩:=aI (xs:=f.inodes) (j:=Int.toNat ((aQ f p).1)) (by first | omega |(simp <;> omega))
 obtain⟨mg,dt,cc,cd⟩:=au.elem bb
 obtain⟨gd,ge,rfl,cx,bc⟩:=cM dt
 obtain⟨gf,gg,rfl,fj,fk,fl,fm⟩:=aD cx
 obtain⟨gh,gi,rfl,fn,fo,fp,bz⟩:=aD bc
 have p7:=dC (i:=((aQ f p).1)) bb (by omega)
 have ai:=dE (a:=((aQ f p).1)) bb (by omega)
 have p8:=eB (a:=((aQ f p).1)) bb (by omega)
 have du:=ht.get bb
 refine Y.ql rfl (aB (j:=Int.toNat ((aQ f p).1)) rfl cQ aV (.t .g1) (.t .z) (by omega) (by first | omega |(simp <;> omega))) ?_
 refine Y.fa rfl .z bS (Y.le rfl eE .z cc cd (Y.mv rfl .g9 ?_))
 refine Y.cl rfl rfl Tryz.func127 rfl rfl (aR (.t .g1) (.t .z)) .n (fun _ _ hs tr=>sE (tr.ctx bc) _ (by first | assumption | omega |(dsimp only;omega))) ?_
 rintro _ _ ⟨rfl,rfl⟩
 refine Y.m .n ?_
 refine Y.as rfl .z (Y.nt (Y.seq (Y.seq (Y.region (Y.mv rfl .z (Y.ql rfl (cR rfl (.t .z) .c) (Y.nil ?_)))))))
 refine Y.g ?_
 refine Y.u (.t .z) (fun p9=> ?_) (fun p9=> ?_)
 have mh:=gP (dH ((aQ f p).2.1)) bx.ents
 refine Y.seq (Y.region (Y.ql rfl (qW rfl bR (.t (.s16 .g7)) .g1 aX) ?_))
 refine Y.cl rfl rfl Tryz.func172 rfl rfl (aR (.t .z) .c) .n (fun _ _ hs tr=>gY (aK f (tr.ctx ac) (tr.ctx ad)) _) ?_
 rintro _ _ ⟨sv,sw,sx,sy,rfl,rfl⟩
 refine Y.m (.c (.c (.c (.c .n)))) ?_
 refine Y.h (WS.a .z) ?_
 rintro⟨qa,qb,rfl,mi,mj,mk⟩
 refine Y.h (WS.a .g1) ?_
 rintro⟨qc,qd,rfl,ml,mm,mn⟩
 refine Y.h (WS.a .g2) ?_
 rintro⟨qe,qf,rfl,mo,mp,mq⟩
 refine Y.h (WS.a .g3) ?_
 rintro⟨qh,qi,rfl,mr,ms,mt⟩
 refine Y.es (aE rfl) rfl (esW rfl (.t (.s16 .g8)) (.t .z) .g4 bD rfl rfl) ?_
 refine Y.nt (Y.ret (Y.j ?_))
 refine Y.i (dF rfl (.s16 .g8) dO .z bD) (.c .g1 (.c .g1 (.c .g1 (.c .g1 .n)))) ?_
 exact⟨(⟨0,4,0,[],[],(⟨f.inodes,f.data⟩:DFs)⟩:eD),(by first | exact hj | assumption),_,_,_,_,rfl,rfl⟩
 have mu:=gP (dH ((aQ f p).2.1)) bx.ents
 refine Y.skip (Y.g (Y.seq (Y.region (Y.fa rfl (.s16 .g7) aO (Y.ld rfl bT .z .g1 (Y.mv rfl (.s16 .g1) ?_))))))
 refine Y.ql rfl (aB (j:=Int.toNat ((aQ f p).1)) rfl cQ aV (.t .g1) (.t .z) (by omega) (by first | omega |(simp <;> omega))) ?_
 refine Y.fa rfl .z bS (Y.le rfl eE .z cc cd (Y.mv rfl .g8 ?_))
 obtain⟨qj,cy,cz⟩:=bz (by omega)
 subst cy
 obtain⟨ag,ba⟩:=aI (xs:=bx.ents) (j:=Int.toNat (fG (dH ((aQ f p).2.1)) bx.ents)) (by first | omega |(simp <;> omega))
 obtain⟨mw,dv,dw,dx⟩:=cz.elem ba
 obtain⟨rfl,gj⟩:=fV dv
 have mx:=qN du _ _ ba
 refine Y.ql rfl (aB (j:=Int.toNat (fG (dH ((aQ f p).2.1)) bx.ents)) rfl eA gH (.t .g1) (.t .z) (by omega) (by first | omega |(simp <;> omega))) ?_
 refine Y.fa rfl .z iY (Y.le rfl cB .z dw dx (Y.as rfl .z (Y.nt (Y.seq (Y.region (Y.mv rfl (.s16 (.s16 .g5)) ?_))))))
 refine Y.cl rfl rfl Tryz.func171 rfl rfl (aR (.t (.s16 (.s16 .g3))) (.t .z)) .n (fun _ _ hs tr=>xA (tr.ptr .g1 (aK f (tr.ctx ac) (tr.ctx ad))) _ (by first | assumption | omega |(dsimp only;omega)) (by assumption)) ?_
 rintro _ _ ⟨rfl,rfl⟩
 refine Y.m .n ?_
 have gk:=nQ (f:=f) (s:=q)
 have gl:=lR ht q
 refine Y.mv rfl .z (Y.ql rfl (bK (v:= .int .i64 ((aQ f q).1)) rfl (.t .z) rfl) (Y.ql rfl (bK (v:= .string ((aQ f q).2.1)) rfl (.t .g1) rfl) (Y.ql rfl (bK (v:= .int .i64 ((aQ f q).2.2)) rfl (.t .g2) rfl) (Y.as rfl .g2 (Y.as rfl .g2 (Y.er (.s16 .g16) (Y.as rfl .g2 (Y.nil ?_))))))))
 refine Y.g (Y.seq (Y.seq (Y.region (Y.mv rfl .z (Y.ql rfl (bY rfl (.t .z) .c) (Y.nt ?_))))))
 refine Y.ac (.t .z) (fun qk=> ?_) (fun qk=> ?_)
 refine Y.seq (Y.region (Y.ql rfl (qW rfl bR (.t (.s16 (.s16 .g12))) .g1 aX) (Y.mv rfl .g3 ?_)))
 refine Y.cl rfl rfl Tryz.func172 rfl rfl (aR (.t .g1) (.t .z)) .n (fun _ _ hs tr=>gY (aK f (tr.ctx ac) (tr.ctx ad)) _) ?_
 rintro _ _ ⟨s0,s1,s2,s3,rfl,rfl⟩
 refine Y.m (.c (.c (.c (.c .n)))) ?_
 refine Y.h (WS.a .z) ?_
 rintro⟨qm,qn,rfl,my,mz,m0⟩
 refine Y.h (WS.a .g1) ?_
 rintro⟨qo,qp,rfl,m1,m2,m3⟩
 refine Y.h (WS.a .g2) ?_
 rintro⟨qq,qr,rfl,m4,m5,m6⟩
 refine Y.h (WS.a .g3) ?_
 rintro⟨qt,qu,rfl,m7,m8,m9⟩
 refine Y.es (aE rfl) rfl (esW rfl (.t (.s16 (.s16 .g14))) (.t .z) .g4 bD rfl rfl) ?_
 refine Y.nt (Y.ret (Y.j ?_))
 refine Y.i (dF rfl (.s16 (.s16 .g14)) dO .z bD) (.c .g1 (.c .g1 (.c .g1 (.c .g1 .n)))) ?_
 exact⟨(⟨0,((aQ f q).2.2),0,[],[],(⟨f.inodes,f.data⟩:DFs)⟩:eD),(by first | exact hj | assumption),_,_,_,_,rfl,rfl⟩
 refine Y.skip (Y.g (Y.seq (Y.seq (Y.region (Y.fa rfl (.s16 (.s16 .g12)) aO (Y.ld rfl bT .z .g1 (Y.mv rfl .g13 ?_)))))))
 obtain⟨s4,bd⟩:=aI (xs:=f.inodes) (j:=Int.toNat ag.ino) (by first | omega |(simp <;> omega))
 obtain⟨na,dy,dz,d0⟩:=au.elem bd
 obtain⟨gm,gn,rfl,c0,c1⟩:=cM dy
 obtain⟨go,gp,rfl,fq,fr,ft,fu⟩:=aD c0
 obtain⟨gq,gr,rfl,fv,fw,fx,fy⟩:=aD c1
 have qv:=dC (i:=ag.ino) bd (by omega)
 have b0:=dE (a:=ag.ino) bd (by omega)
 have qw:=eB (a:=ag.ino) bd (by omega)
 have nb:=ht.get bd
 refine Y.ql rfl (aB (j:=Int.toNat ag.ino) rfl cQ aV (.t .g1) (.t .z) (by omega) (by first | omega |(simp <;> omega))) ?_
 refine Y.fa rfl .z cA (Y.le rfl cB .z dz d0 (Y.ql rfl (bU rfl (.t .z) .c) (Y.mv rfl .z ?_)))
 refine Y.am .z (fun g62=> ?_) (fun g62=> ?_)
 refine Y.qg rfl rfl .z rfl rfl rfl (aN rfl (.t .g12)) ?_
 refine Y.qg rfl rfl .g1 rfl rfl rfl (aN rfl (.t (.s16 .g4))) ?_
 refine Y.call (eR rfl rfl .g2) rfl (by decide) rfl (bG rfl Tryz.func176 rfl rfl (pK (.t (.s16 (.s16 (.s16 .g6)))) (.t .g1) (.t .z) .c)) .n (fun _ _ hs tr=>aJb (tr.ptr .g1 (aK f (tr.ctx ac) (tr.ctx ad))) _ _ _ (by assumption) (by first | assumption |(constructor <;> omega)) 10 (by omega) (by omega)) ?_
 rintro _ _ ⟨rfl,rfl⟩
 refine Y.m .n ?_
 refine Y.ql rfl (aZ rfl (.t .g3) (.t .z)) (Y.nt ?_)
 refine Y.cond (.t .z) (fun qx=> ?_) (fun qx=> ?_)
 refine Y.seq (Y.region (Y.ql rfl (qW rfl bR (.t (.s16 (.s16 (.s16 .g8)))) .g1 aX) ?_))
 refine Y.cl rfl rfl Tryz.func172 rfl rfl (aR (.t .z) .c) .n (fun _ _ hs tr=>gY (aK f (tr.ctx ac) (tr.ctx ad)) _) ?_
 rintro _ _ ⟨s5,s6,s7,s8,rfl,rfl⟩
 refine Y.m (.c (.c (.c (.c .n)))) ?_
 refine Y.h (WS.a .z) ?_
 rintro⟨qy,qz,rfl,nd,ne,nf⟩
 refine Y.h (WS.a .g1) ?_
 rintro⟨q0,q1,rfl,ng,nh,ni⟩
 refine Y.h (WS.a .g2) ?_
 rintro⟨q2,q3,rfl,nj,nk,nl⟩
 refine Y.h (WS.a .g3) ?_
 rintro⟨q4,q5,rfl,nm,nn,no⟩
 refine Y.es (aE rfl) rfl (esW rfl (.t (.s16 (.s16 (.s16 .g9)))) (.t .z) .g4 bD rfl rfl) ?_
 refine Y.nt (Y.ret (Y.j ?_))
 refine Y.i (dF rfl (.s16 (.s16 (.s16 .g9))) dO .z bD) (.c .g1 (.c .g1 (.c .g1 (.c .g1 .n)))) ?_
 exact⟨(⟨0,1,0,[],[],(⟨f.inodes,f.data⟩:DFs)⟩:eD),(by first | exact hj | assumption),_,_,_,_,rfl,rfl⟩
 refine Y.skip (Y.g (Y.seq (Y.region (Y.ql rfl (qW rfl bR (.t (.s16 (.s16 (.s16 .g8)))) .g1 aX) ?_))))
 refine Y.cl rfl rfl Tryz.func67 rfl rfl (bH (.t .z)) .n (fun _ _ hs tr=>uY (aK f (tr.ctx ac) (tr.ctx ad))) ?_
 rintro _ _ ⟨s9,ta,rfl,rfl⟩
 refine Y.m (.c (.c .n)) ?_
 refine Y.h (WS.a .z) ?_
 rintro⟨d1,d2,rfl,np,nq,nr⟩
 refine Y.h (WS.a .g1) ?_
 rintro⟨d3,d4,rfl,ns,nu,nv⟩
 refine Y.el rfl (bP rfl nK rfl rfl) ?_
 rintro _ _ ⟨g82,rfl,rfl⟩
 refine Y.es (aE rfl) rfl (esW rfl (.t .z) (.t .g1) .z aX rfl rfl) ?_
 refine Y.nt (Y.seq (Y.region (Y.fa rfl (.s16 (.s16 (.s16 .g11))) aO (Y.ld rfl bT .z .g4 (Y.mv rfl (.s16 .g5) ?_)))))
 obtain⟨c2,be⟩:=aI (xs:=f.inodes) (j:=Int.toNat ((aQ f q).1)) (by first | omega |(simp <;> omega))
 obtain⟨nw,d5,bf,bg⟩:=au.elem be
 obtain⟨gs,gt,rfl,c3,bh⟩:=cM d5
 obtain⟨gu,gv,rfl,fz,f0,f1,f2⟩:=aD c3
 obtain⟨gw,gx,rfl,f3,f4,f5,b1⟩:=aD bh
 have q6:=dC (i:=((aQ f q).1)) be (by omega)
 have b2:=dE (a:=((aQ f q).1)) be (by omega)
 have q7:=eB (a:=((aQ f q).1)) be (by omega)
 have d6:=ht.get be
 refine Y.ql rfl (aB (j:=Int.toNat ((aQ f q).1)) rfl cQ aV (.t .g1) (.t .z) (by omega) (by first | omega |(simp <;> omega))) ?_
 refine Y.fa rfl .z bS (Y.le rfl eE .z bf bg (Y.mv rfl (.s16 .g8) ?_))
 refine Y.cl rfl rfl Tryz.func127 rfl rfl (aR (.t .g1) (.t .z)) .n (fun _ _ hs tr=>sE (tr.ctx bh) _ (by first | assumption | omega |(dsimp only;omega))) ?_
 rintro _ _ ⟨rfl,rfl⟩
 refine Y.m .n ?_
 refine Y.as rfl .z (Y.nt ?_)
 refine Y.ax (γ:=(Option Addr)×Nat×(Option Addr)×Nat×DFs) (fun⟨aj,ah,ak,al,F⟩=> [(14,.pointer (some ⟨g82,0,none⟩)),(13,.string ((aQ f q).2.1)),(12,.int .i64 ((aQ f q).1)),(11,.int .i64 ag.ino),(8,.string ((aQ f p).2.1)),(7,.int .i64 ((aQ f p).1)),(6,.pointer (some ⟨g4,0,none⟩))]) (fun⟨aj,ah,ak,al,F⟩=> [bW g82 27 2 1 [.slice aj F.inodes.length ah,.slice ak F.data.length al],aG aW F.inodes [.slice aj F.inodes.length ah],aG dA F.data [.slice ak F.data.length al],bW g4 155 7 1 [.int .i64 0,.int .i64 0,.int .i64 0,.slice none 0 0,.slice none 0 0,.slice none 0 0,.slice none 0 0],bW g3 27 2 1 [.slice (some ds) f.inodes.length bu,.slice bv f.data.length bw]]) (fun⟨aj,ah,ak,al,F⟩=>Jf F∧F.inodes.length=f.inodes.length∧0≤fG (dH ((aQ f p).2.1)) (aH F.inodes ((aQ f p).1))∧((aH F.inodes ((aQ f q).1)).length≤5∨(((aQ f q).1)=((aQ f p).1)∧(aH F.inodes ((aQ f q).1)).length≤6))) ?_ ?_
 refine Y.seq (Y.region (Y.mv rfl .z (Y.ql rfl (mB rfl (.t .z) .c) (Y.nt ?_))))
 refine Y.u (.t .z) (fun q8=> ?_) (fun q8=> ?_)
 have nx:=gP (dH ((aQ f q).2.1)) c2.ents
 refine Y.seq (Y.region (Y.ql rfl (aS rfl (.t (.s16 (.s16 (.s16 (.s16 .g6))))) (fun _=>aO _ _)) (Y.ld rfl bT .z .g4 (Y.mv rfl (.s16 .g16) ?_))))
 refine Y.ql rfl (aB (j:=Int.toNat ((aQ f q).1)) rfl cQ aV (.t .g1) (.t .z) (by omega) (by first | omega |(simp <;> omega))) ?_
 refine Y.fa rfl .z bS (Y.le rfl eE .z bf bg (Y.mv rfl .g8 ?_))
 obtain⟨q9,c4,c5⟩:=b1 (by omega)
 subst c4
 obtain⟨ra,b3⟩:=aI (xs:=c2.ents) (j:=Int.toNat (fG (dH ((aQ f q).2.1)) c2.ents)) (by first | omega |(simp <;> omega))
 obtain⟨ny,d7,d8,d9⟩:=c5.elem b3
 obtain⟨rfl,gy⟩:=fV d7
 have nz:=qN d6 _ _ b3
 refine Y.ql rfl (aB (j:=Int.toNat (fG (dH ((aQ f q).2.1)) c2.ents)) rfl eA gH (.t .g1) (.t .z) (by omega) (by first | omega |(simp <;> omega))) ?_
 refine Y.fa rfl .z iY (Y.le rfl cB .z d8 d9 (Y.as rfl .z (Y.nt (Y.seq (Y.seq (Y.region (Y.mv rfl .z ?_)))))))
 refine Y.mv rfl (.s16 (.s16 (.s16 .g1))) (Y.ql rfl (bU rfl (.t .g1) (.t .z)) (Y.nt ?_))
 refine Y.u (.t .z) (fun rb=> ?_) (fun rb=> ?_)
 refine Y.seq (Y.region (Y.ql rfl (qW rfl bR (.t (.s16 (.s16 (.s16 (.s16 (.s16 .g4)))))) .g4 aX) ?_))
 refine Y.cl rfl rfl Tryz.func172 rfl rfl (aR (.t .z) .c) .n (fun _ _ hs tr=>gY (aK f (tr.ctx ac) (tr.ctx ad)) _) ?_
 rintro _ _ ⟨tb,tc,td,te,rfl,rfl⟩
 refine Y.m (.c (.c (.c (.c .n)))) ?_
 refine Y.h (WS.a .z) ?_
 rintro⟨n0,n1,rfl,gz,g0,ha⟩
 refine Y.h (WS.a .g1) ?_
 rintro⟨n2,n3,rfl,hb,hc,hd⟩
 refine Y.h (WS.a .g2) ?_
 rintro⟨n4,n5,rfl,he,hf,hg⟩
 refine Y.h (WS.a .g3) ?_
 rintro⟨n6,n7,rfl,hh,hi,hk⟩
 refine Y.es (aE rfl) rfl (esW rfl (.t (.s16 (.s16 (.s16 (.s16 (.s16 .g5)))))) (.t .z) .g7 bD rfl rfl) ?_
 refine Y.nt (Y.ret (Y.j (Y.j ?_)))
 refine Y.i (dF rfl (.s16 (.s16 (.s16 (.s16 (.s16 .g5))))) dO .z bD) (.c .g1 (.c .g1 (.c .g1 (.c .g1 .n)))) ?_
 exact⟨(⟨0,0,0,[],[],(⟨f.inodes,f.data⟩:DFs)⟩:eD),(by first | exact hj | assumption),_,_,_,_,rfl,rfl⟩
 refine Y.skip (Y.g (Y.seq (Y.seq (Y.region (Y.mv rfl (.s16 (.s16 (.s16 .g3))) (Y.mv rfl .g4 ?_))))))
 refine Y.cl rfl rfl Tryz.func177 rfl rfl (eS (.t (.s16 (.s16 (.s16 (.s16 (.s16 .g6)))))) (.t .g1) (.t .z)) .n (fun _ _ hs tr=>aIo (tr.ptr .g4 (aK f (tr.ctx ac) (tr.ctx ad))) _ _ (by first | assumption |(constructor <;> omega)) (by first | assumption |(constructor <;> omega))) ?_
 rintro _ _ ⟨ea,c6,rfl,rfl⟩
 refine Y.m .n ?_
 refine Y.as rfl .z (Y.nt (Y.seq (Y.region (Y.mv rfl .z (Y.ql rfl (bY rfl (.t .z) .c) (Y.nt ?_))))))
 refine Y.ac (.t .z) (fun hl=> ?_) (fun hl=> ?_)
 refine Y.seq (Y.region (Y.ql rfl (qW rfl bR (.t (.s16 (.s16 (.s16 (.s16 (.s16 .g10)))))) .g4 aX) (Y.mv rfl .g3 ?_)))
 refine Y.cl rfl rfl Tryz.func172 rfl rfl (aR (.t .g1) (.t .z)) .n (fun _ _ hs tr=>gY (aK f (tr.ctx ac) (tr.ctx ad)) _) ?_
 rintro _ _ ⟨rc,rd,re,rf,rfl,rfl⟩
 refine Y.m (.c (.c (.c (.c .n)))) ?_
 refine Y.h (WS.a .z) ?_
 rintro⟨n8,n9,rfl,hm,hn,ho⟩
 refine Y.h (WS.a .g1) ?_
 rintro⟨oa,ob,rfl,hp,hq,hr⟩
 refine Y.h (WS.a .g2) ?_
 rintro⟨oc,od,rfl,hu,hv,hw⟩
 refine Y.h (WS.a .g3) ?_
 rintro⟨oe,og,rfl,hx,hy,hz⟩
 refine Y.es (aE rfl) rfl (esW rfl (.t (.s16 (.s16 (.s16 (.s16 (.s16 .g12)))))) (.t .z) .g7 bD rfl rfl) ?_
 refine Y.nt (Y.ret (Y.j (Y.j ?_)))
 refine Y.i (dF rfl (.s16 (.s16 (.s16 (.s16 (.s16 .g12))))) dO .z bD) (.c .g1 (.c .g1 (.c .g1 (.c .g1 .n)))) ?_
 exact⟨(⟨0,ea,0,[],[],(⟨f.inodes,f.data⟩:DFs)⟩:eD),(by first | exact hj | assumption),_,_,_,_,rfl,rfl⟩
 refine Y.skip (Y.g (Y.region (Y.mv rfl (.s16 (.s16 (.s16 .g2))) (Y.mv rfl (.s16 .g7) ?_))))
 obtain⟨ao,c7,b4, -⟩:=lU (show¬fG (dH ((aQ f q).2.1)) c2.ents= -1 by omega)
 refine Y.eq .z (congrArg (Value.int .i64) c7) ?_
 have av:ao<(aH f.inodes ((aQ f q).1)).length:=by rw [b2];exact b4
 have hFl:(jF f ((aQ f q).1) ao).inodes.length=f.inodes.length:=yO
 refine Y.cl rfl rfl Tryz.func175 rfl rfl (eS (.t (.s16 (.s16 .g1))) (.t .g1) (.t .z)) (.c .z (.c .z (.c .z .n))) (fun _ _ hs tr=>aBm (f:=f) _ _ hs (by assumption) (by first | assumption |(constructor <;> omega)) (by first | omega | assumption)) ?_
 rintro _ _ ⟨rg,rh,rfl,rfl⟩
 refine Y.m (.c (.c (.c .n))) ?_
 refine Y.h (WS.a .g1) ?_
 rintro⟨eb,ec,rfl,h1,h2,h3⟩
 refine Y.h (WS.a .g2) ?_
 rintro⟨ed,ee,rfl,h4,h6,h7⟩
 refine Y.nil ?_
 have h6t:=kV ht ((aQ f q).1)
 obtain⟨i0,h8,h9, -⟩:=lU (show¬fG (dH ((aQ f p).2.1)) bx.ents= -1 by omega)
 have ia:fG (dH ((aQ f p).2.1)) (aH f.inodes ((aQ f p).1))=(i0:Int):=by rw [ai];exact h8
 have ib:eX (aH f.inodes ((aQ f p).1)) i0=ag.ino:=by rw [ai];exact nF (by first | exact ba |(rw [show i0=Int.toNat (fG (dH ((aQ f p).2.1)) bx.ents) by omega];exact ba))
 have ef:eX (aH f.inodes ((aQ f q).1)) ao=ra.ino:=by rw [b2];exact nF (by first | exact b3 |(rw [show ao=Int.toNat (fG (dH ((aQ f q).2.1)) c2.ents) by omega];exact b3))
 have hst:=yM hj (by assumption) (by assumption) ia av (by rw [ef,ib];first | assumption | omega) (by rw [ef];first | assumption | exact c6 (by omega))
 have hsh:=tF (f:=f) (a:=((aQ f q).1)) (i:=ao) (by omega) av
 exact Y.au (eb,ec,ed,ee,(jF f ((aQ f q).1) ao)) ⟨by first | exact hj | exact jI hj _ _,by first | rfl | assumption,hst,by first | omega |(left;omega) |(right;omega)⟩ (.c (.s16 (.s16 .g2)) (.c (.s16 (.s16 (.s16 .g4))) (.c (.s16 (.s16 (.s16 .g5))) (.c (.s16 (.s16 (.s16 .g12))) (.c (.s16 (.s16 (.s16 (.s16 (.s16 .g4))))) (.c (.s16 (.s16 (.s16 (.s16 (.s16 .g5))))) (.c (.s16 (.s16 (.s16 (.s16 (.s16 .g12))))) .n))))))) (fun _ h=>h.sel (.c .z (.c .z (.c .z (.c .z (.c .z .n))))))
 have ic:=gP (dH ((aQ f q).2.1)) c2.ents
 refine Y.seq (Y.region (Y.mv rfl (.s16 .g14) (Y.mv rfl (.s16 (.s16 (.s16 .g15))) (Y.ql rfl (bY rfl (.t .g1) (.t .z)) (Y.mv rfl .z ?_)))))
 refine Y.ao .z (fun g127=> ?_) (fun g127=> ?_)
 refine Y.qg rfl rfl .z rfl rfl rfl (aS rfl (.t (.s16 (.s16 (.s16 (.s16 .g10))))) (fun _=>aO _ _)) ?_
 refine Y.qg rfl rfl .g1 rfl rfl rfl (aP rfl bT (.t .z) (WS.h .g4 rfl)) ?_
 refine Y.qg rfl rfl .g2 rfl rfl rfl (aN rfl (.t (.s16 (.s16 .g4)))) ?_
 refine Y.qg rfl rfl .g3 rfl rfl rfl (aB (j:=Int.toNat ((aQ f q).1)) rfl cQ aV (.t .g1) (.t .z) (by omega) (by first | omega |(simp <;> omega))) ?_
 refine Y.qg rfl rfl .g4 rfl rfl rfl (aS rfl (.t .z) (fun _=>bS _ _)) ?_
 refine Y.qg rfl rfl .g5 rfl rfl rfl (aP rfl eE (.t .z) (WS.el bf bg rfl)) ?_
 refine Y.qg rfl rfl .g6 rfl rfl rfl (bE rfl eA (.t .z)) ?_
 refine Y.qg rfl rfl .g7 rfl rfl rfl (mB rfl (.t .z) .c) ?_
 refine Y.ql rfl (aZ rfl (.t .g8) (.t .z)) (Y.nt ?_)
 refine Y.u (.t .z) (fun id=> ?_) (fun id=> ?_)
 refine Y.seq (Y.region (Y.ql rfl (qW rfl bR (.t (.s16 (.s16 (.s16 (.s16 (.s16 .g3)))))) .g4 aX) ?_))
 refine Y.cl rfl rfl Tryz.func172 rfl rfl (aR (.t .z) .c) .n (fun _ _ hs tr=>gY (aK f (tr.ctx ac) (tr.ctx ad)) _) ?_
 rintro _ _ ⟨ri,rj,rk,rl,rfl,rfl⟩
 refine Y.m (.c (.c (.c (.c .n)))) ?_
 refine Y.h (WS.a .z) ?_
 rintro⟨oh,oi,rfl,ie,ig,ih⟩
 refine Y.h (WS.a .g1) ?_
 rintro⟨oj,ol,rfl,ii,ij,ik⟩
 refine Y.h (WS.a .g2) ?_
 rintro⟨om,on,rfl,il,im,io⟩
 refine Y.h (WS.a .g3) ?_
 rintro⟨oo,op,rfl,ip,iq,ir⟩
 refine Y.es (aE rfl) rfl (esW rfl (.t (.s16 (.s16 (.s16 (.s16 (.s16 .g4)))))) (.t .z) .g7 bD rfl rfl) ?_
 refine Y.nt (Y.ret (Y.j ?_))
 refine Y.i (dF rfl (.s16 (.s16 (.s16 (.s16 (.s16 .g4))))) dO .z bD) (.c .g1 (.c .g1 (.c .g1 (.c .g1 .n)))) ?_
 exact⟨(⟨0,2,0,[],[],(⟨f.inodes,f.data⟩:DFs)⟩:eD),(by first | exact hj | assumption),_,_,_,_,rfl,rfl⟩
 refine Y.skip ?_
 have h6t:=kV ht ((aQ f q).1)
 have hst:0≤fG (dH ((aQ f p).2.1)) (aH f.inodes ((aQ f p).1)):=by rw [ai];omega
 have it:=congrArg List.length ai;have iu:=congrArg List.length b0;have iv:=congrArg List.length b2
 exact Y.au (d1,d2,d3,d4,f) ⟨by first | exact hj | exact jI hj _ _,by first | rfl | assumption,hst,by first | omega |(left;omega) |(right;omega)⟩ (.c (.s16 .g8) (.c (.s16 (.s16 .g10)) (.c (.s16 (.s16 .g11)) (.c (.s16 (.s16 (.s16 .g2))) (.c (.s16 (.s16 (.s16 (.s16 .g10)))) (.c (.s16 (.s16 (.s16 (.s16 .g11)))) (.c (.s16 (.s16 (.s16 (.s16 (.s16 .g2))))) .n))))))) (fun _ h=>h.sel (.c .z (.c .z (.c .z (.c .z (.c .z .n))))))
 refine Y.r rfl rfl .z rfl rfl (by decide) rfl ?_
 refine Y.r rfl rfl .g1 rfl rfl (by decide) rfl ?_
 refine Y.r rfl rfl .g2 rfl rfl (by decide) rfl ?_
 refine Y.r rfl rfl .g3 rfl rfl (by decide) rfl ?_
 refine Y.r rfl rfl .g4 rfl rfl (by decide) rfl ?_
 refine Y.r rfl rfl .g5 rfl rfl (by decide) rfl ?_
 refine Y.r rfl rfl .g6 rfl rfl (by decide) rfl ?_
 refine Y.r rfl rfl .g7 rfl rfl (by decide) rfl ?_
 refine Y.ql rfl (bJ rfl (.t .g8) .c) (Y.nt ?_)
 refine Y.an (.t .z) ?_
 refine Y.skip ?_
 have h6t:=kV ht ((aQ f q).1)
 have hst:0≤fG (dH ((aQ f p).2.1)) (aH f.inodes ((aQ f p).1)):=by rw [ai];omega
 have it:=congrArg List.length ai;have iu:=congrArg List.length b0;have iv:=congrArg List.length b2
 exact Y.au (d1,d2,d3,d4,f) ⟨by first | exact hj | exact jI hj _ _,by first | rfl | assumption,hst,by first | omega |(left;omega) |(right;omega)⟩ (.c (.s16 .g8) (.c (.s16 (.s16 .g10)) (.c (.s16 (.s16 .g11)) (.c (.s16 (.s16 (.s16 .g2))) (.c (.s16 (.s16 (.s16 (.s16 .g10)))) (.c (.s16 (.s16 (.s16 (.s16 .g11)))) (.c (.s16 (.s16 (.s16 (.s16 (.s16 .g2))))) .n))))))) (fun _ h=>h.sel (.c .z (.c .z (.c .z (.c .z (.c .z .n))))))
 rintro⟨aj,ah,ak,al,F⟩ ⟨hJF,hFl,hst,iw⟩
 refine Y.seq (Y.region (Y.mv rfl .g5 (Y.fa rfl .g1 aO (Y.ld rfl bT .z .z (Y.mv rfl .g8 ?_)))))
 refine Y.ab (.c .g1 .n) fP ?_
 rintro eg a3
 obtain⟨aw,ap⟩:=aI (xs:=F.inodes) (j:=Int.toNat ((aQ f p).1)) (by first | omega |(simp <;> omega))
 obtain⟨rm,bi⟩:=aI (xs:=eg) (j:=Int.toNat ((aQ f p).1)) (by rw [a3];exact(List.getElem?_eq_some_iff.1 ap).1)
 refine Y.aq .g1 (eG ap bi) ?_
 refine Y.ab (.c .z .n) fC ?_
 rintro⟨rn,rp⟩ rfl
 refine Y.h (WS.a .z) ?_
 rintro⟨eh,ei,rfl,ix,iy,iz⟩
 refine Y.h (WS.a .g1) ?_
 rintro⟨ej,ek,rfl,i1,i2,i3⟩
 have oq:=dC (i:=((aQ f p).1)) ap (by omega)
 have ce:=dE (a:=((aQ f p).1)) ap (by omega)
 have ot:=eB (a:=((aQ f p).1)) ap (by omega)
 refine Y.h (WS.g .g4 (by first | omega |(simp <;> omega) |(simp only [List.length_append,List.length_cons,List.length_nil,List.length_set] at *;omega))) ?_
 rintro⟨em,rfl⟩
 refine Y.ql rfl (aB (j:=Int.toNat ((aQ f p).1)) rfl cQ aV (.t .g1) (.t .z) (by omega) (by first | omega |(simp <;> omega))) ?_
 refine Y.fa rfl .z bS (Y.ql rfl (aP rfl eE (.t .z) (WS.j .g4 bi rfl)) (Y.mv rfl .g11 ?_))
 refine Y.cl rfl rfl Tryz.func127 rfl rfl (aR (.t .g1) (.t .z)) .n (fun _ _ hs tr=>sE (tr.own .g1) _ (by first | assumption | omega |(dsimp only;omega))) ?_
 rintro _ _ ⟨rfl,rfl⟩
 refine Y.m .n ?_
 refine Y.af (c:=aG cD aw [.int .i64 aw.kind,.int .i64 aw.links,.int .i64 aw.size,.slice eh aw.blocks.length ei,.slice ej aw.ents.length ek]) (.c .z (.c .z .n)) (fun w S h=>cS aw h) ?_
 refine Y.af (c:=aG aW F.inodes [.slice (some em) F.inodes.length ah]) (.c .g3 (.c .z (.c .z (.c .z .n)))) (eM (K:=cD) a3 ap bi) ?_
 rw [ce] at hst
 obtain⟨ae,c8,b5, -⟩:=lU (show¬fG (dH ((aQ f p).2.1)) aw.ents= -1 by omega)
 refine Y.eq .z (congrArg (Value.int .i64) c8) ?_
 have bj:ae<(aH F.inodes ((aQ f p).1)).length:=by rw [ce];exact b5
 have hrl:=aEo (F:=F) (d:=((aQ f p).1)) (t:=((aQ f q).1)) (i:=ae) (by rw [hFl];assumption) (by rw [hFl];assumption) bj
 have hJG:Jf (dJ F ((aQ f p).1) (List.eraseIdx (aH F.inodes ((aQ f p).1)) ae)):=vW hJF
 have hGl:(dJ F ((aQ f p).1) (List.eraseIdx (aH F.inodes ((aQ f p).1)) ae)).inodes.length=f.inodes.length:=dI.trans hFl
 refine Y.cl rfl rfl Tryz.func178 rfl rfl (eS (.t .g9) (.t .g8) (.t .z)) (.c .g1 (.c .z (.c .z .n))) (fun _ _ hs tr=>aG6 (f:=F) _ _ hs (by first | assumption |(constructor <;> omega)) (by omega)) ?_
 rintro _ _ ⟨rq,rr,rfl,rfl⟩
 refine Y.m (.c (.c (.c .n))) ?_
 refine Y.h (WS.a .g1) ?_
 rintro⟨ou,cf,rfl,i4,i5,i6⟩
 refine Y.h (WS.a .g2) ?_
 rintro⟨en,eo,rfl,i7,i8,i9⟩
 refine Y.nt (Y.seq ?_)
 refine Y.ab (.c .g1 .n) fP ?_
 rintro cg a4
 obtain⟨aa,am⟩:=aI (xs:=(dJ F ((aQ f p).1) (List.eraseIdx (aH (F).inodes ((aQ f p).1)) ae)).inodes) (j:=Int.toNat ((aQ f q).1)) (by first | omega |(simp <;> omega))
 obtain⟨rs,bk⟩:=aI (xs:=cg) (j:=Int.toNat ((aQ f q).1)) (by rw [a4];exact(List.getElem?_eq_some_iff.1 am).1)
 refine Y.aq .g1 (eG am bk) ?_
 refine Y.ab (.c .z .n) fC ?_
 rintro⟨rt,ru⟩ rfl
 refine Y.h (WS.a .z) ?_
 rintro⟨ch,ci,rfl,ja,jb,jc⟩
 refine Y.h (WS.a .g1) ?_
 rintro⟨ov,ow,rfl,jd,je,jf⟩
 have ox:=dC (i:=((aQ f q).1)) am (by omega)
 have ep:=dE (a:=((aQ f q).1)) am (by omega)
 have oy:=eB (a:=((aQ f q).1)) am (by omega)
 have hyl:aa.ents.length≤5:=by have e8:=congrArg List.length ep;exact iw.elim (fun h5=>by first | omega |(simp only [dJ] at *;omega)) (fun h5=>by have e9:=hrl.2 h5.1;first | omega |(simp only [dJ] at *;omega))
 refine Y.sel (.c .z (.c .z (.c .g4 (.c .z (.c .z (.c .z (.c .z (.c .z (.c .z .n))))))))) ?_
 refine Y.dr .g3 15 gE ?_
 refine Y.sc (qs 0 12++ [(12,false),(13,false),(14,true),(15,false)]) (by kernel_rfl) ?_
 refine Y.df rfl rfl .g3 .g10 aO (Y.dl rfl rfl .g3 bT .z .g3 (Y.dm rfl rfl .g3 .g14 (Y.df rfl rfl .g3 .g13 aO (Y.dl rfl rfl .g3 bT .z .g3 (Y.dm rfl rfl .g3 (.s16 .g1) ?_)))))
 refine Y.h (WS.g .g5 (by first | omega |(simp <;> omega) |(simp only [List.length_append,List.length_cons,List.length_nil,List.length_set] at *;omega))) ?_
 rintro⟨cj,rfl⟩
 refine Y.dk rfl rfl .g3 (aB (j:=Int.toNat ((aQ f q).1)) rfl cQ aV (.t .g1) (.t .z) (by omega) (by first | omega |(simp <;> omega))) ?_
 refine Y.df rfl rfl .g3 .z bS (Y.dk rfl rfl .g3 (aP rfl eE (.t .z) (WS.j .g2 bk rfl)) (Y.dm rfl rfl .g3 (.s16 .g4) (Y.dm rfl rfl .g3 (.s16 .g7) (Y.dk rfl rfl .g3 (bC (cs:= [.string ((aQ f q).2.1),.int .i64 ag.ino]) rfl tA (pv2 (.t .g1) (.t .z)) rfl) ?_))))
 refine Y.call (aC rfl rfl) rfl (by decide) rfl (bG rfl Tryz.func128 rfl rfl (aR (.t .g3) (.t .z))) .n (fun _ _ hs tr=>aD7 (tr.own .g1) (tM (⟨(aQ f q).2.1,ag.ino⟩:bV) (by first | assumption | omega |(dsimp only;omega))) (by omega)) ?_
 rintro _ _ rfl
 refine Y.m (.c .n) ?_
 refine Y.h (WS.a .z) ?_
 rintro⟨bm,bn,rfl,jg,jh,ji⟩
 refine Y.sk .g4 ?_
 refine Y.q (aC rfl rfl) rfl (by decide) rfl (aB (j:=Int.toNat ((aQ f q).1)) rfl cQ aV (.t .g11) (.t .g10) (by omega) (by first | omega |(simp <;> omega))) ?_
 refine Y.sk .g4 ?_
 refine Y.df rfl rfl .g4 .z bS ?_
 refine Y.es (aC rfl rfl) rfl (kE (j:=Int.toNat ((aQ f q).1)) (off:=4) (cs:= [.slice bm (gN aa.ents (⟨(aQ f q).2.1,ag.ino⟩:bV)).length bn]) rfl qD (.t .z) (iM _ _ _) (.t .g2) rfl (oM rfl) .g6 bk (Nat.le_of_ble_eq_true rfl)) ?_
 refine Y.ah (x':=List.set cg (Int.toNat ((aQ f q).1)) [.int .i64 aa.kind,.int .i64 aa.links,.int .i64 aa.size,.slice ch aa.blocks.length ci,.slice bm (gN aa.ents (⟨(aQ f q).2.1,ag.ino⟩:bV)).length bn]) .z rfl ?_
 refine Y.sl rfl ?_
 refine Y.aa ?_
 refine Y.ai (by kernel_rfl) ?_
 refine Y.g (Y.seq (Y.region (Y.ql rfl (qW rfl bR (.t (.s16 .g9)) .g7 aX) (Y.ql rfl (bC (cs:= [.int .i64 0,.int .i64 0,.int .i64 0,.slice none 0 0,.slice none 0 0,.slice (some cj) ((dJ F ((aQ f p).1) (List.eraseIdx (aH (F).inodes ((aQ f p).1)) ae)).inodes).length cf,.slice en ((dJ F ((aQ f p).1) (List.eraseIdx (aH (F).inodes ((aQ f p).1)) ae)).data).length eo]) rfl mR (pv1 (.t .z)) rfl) ?_))))
 refine Y.es (aE rfl) rfl (esW rfl (.t (.s16 (.s16 .g1))) (.t .z) .g8 bD rfl rfl) ?_
 refine Y.nt (Y.ret ?_)
 refine Y.af (c:=aG cD (⟨aa.kind,aa.links,aa.size,aa.blocks,gN aa.ents (⟨(aQ f q).2.1,ag.ino⟩:bV)⟩:aF) [.int .i64 aa.kind,.int .i64 aa.links,.int .i64 aa.size,.slice ch aa.blocks.length ci,.slice bm (gN aa.ents (⟨(aQ f q).2.1,ag.ino⟩:bV)).length bn]) (.c .g3 (.c .g2 .n)) (fun w S h=>cS (⟨aa.kind,aa.links,aa.size,aa.blocks,gN aa.ents (⟨(aQ f q).2.1,ag.ino⟩:bV)⟩:aF) h) ?_
 refine Y.af (c:=aG aW (List.set ((dJ F ((aQ f p).1) (List.eraseIdx (aH (F).inodes ((aQ f p).1)) ae)).inodes) (Int.toNat ((aQ f q).1)) (⟨aa.kind,aa.links,aa.size,aa.blocks,gN aa.ents (⟨(aQ f q).2.1,ag.ino⟩:bV)⟩:aF)) [.slice (some cj) ((dJ F ((aQ f p).1) (List.eraseIdx (aH (F).inodes ((aQ f p).1)) ae)).inodes).length cf]) (.c .g2 (.c .z (.c .g3 (.c .g3 .n)))) (eT (K:=cD) a4 (List.getElem?_eq_some_iff.1 am).1 rfl) ?_
 refine Y.add (c:=aG bQ [] [.slice none 0 0]) (fun w S=>aL w S none) ?_
 refine Y.add (c:=aG fM [] [.slice none 0 0]) (fun w S=>aL w S none) ?_
 refine Y.i (dF rfl (.s16 (.s16 .g1)) dO .g3 bD) (.c .g1 (.c .z (.c .z (.c .g2 .n)))) ?_
 exact⟨(⟨0,0,0,[],[],(⟨List.set ((dJ F ((aQ f p).1) (List.eraseIdx (aH (F).inodes ((aQ f p).1)) ae)).inodes) (Int.toNat ((aQ f q).1)) (⟨aa.kind,aa.links,aa.size,aa.blocks,gN aa.ents (⟨(aQ f q).2.1,ag.ino⟩:bV)⟩:aF),(dJ F ((aQ f p).1) (List.eraseIdx (aH (F).inodes ((aQ f p).1)) ae)).data⟩:DFs)⟩:eD),(by first | exact hj | assumption | exact aHj hJG am hyl (by rw [hGl];constructor <;>(dsimp only;omega)) (by dsimp only;omega)),_,_,_,_,rfl,rfl⟩
 refine Y.r rfl rfl .z rfl rfl (by decide) rfl ?_
 refine Y.r rfl rfl .g1 rfl rfl (by decide) rfl ?_
 refine Y.r rfl rfl .g2 rfl rfl (by decide) rfl ?_
 refine Y.ql rfl (bJ rfl (.t .g3) .c) (Y.nt ?_)
 refine Y.an (.t .z) ?_
 refine Y.skip (Y.g (Y.seq (Y.region (Y.ql rfl (qW rfl bR (.t (.s16 (.s16 (.s16 .g8)))) .g1 aX) ?_))))
 refine Y.cl rfl rfl Tryz.func67 rfl rfl (bH (.t .z)) .n (fun _ _ hs tr=>uY (aK f (tr.ctx ac) (tr.ctx ad))) ?_
 rintro _ _ ⟨rv,rx,rfl,rfl⟩
 refine Y.m (.c (.c .n)) ?_
 refine Y.h (WS.a .z) ?_
 rintro⟨ck,cm,rfl,jj,jk,jl⟩
 refine Y.h (WS.a .g1) ?_
 rintro⟨cn,co,rfl,jm,jn,jo⟩
 refine Y.el rfl (bP rfl nK rfl rfl) ?_
 rintro _ _ ⟨g183,rfl,rfl⟩
 refine Y.es (aE rfl) rfl (esW rfl (.t .z) (.t .g1) .z aX rfl rfl) ?_
 refine Y.nt (Y.seq (Y.region (Y.fa rfl (.s16 (.s16 (.s16 .g11))) aO (Y.ld rfl bT .z .g4 (Y.mv rfl (.s16 .g5) ?_)))))
 obtain⟨a0,ax⟩:=aI (xs:=f.inodes) (j:=Int.toNat ((aQ f q).1)) (by first | omega |(simp <;> omega))
 obtain⟨jp,c9,a1,a2⟩:=au.elem ax
 obtain⟨f6,f7,rfl,b6,a5⟩:=cM c9
 obtain⟨f8,f9,rfl,et,eu,ev,ew⟩:=aD b6
 obtain⟨ga,gb,rfl,ey,ez,e0,bo⟩:=aD a5
 have oz:=dC (i:=((aQ f q).1)) ax (by omega)
 have a6:=dE (a:=((aQ f q).1)) ax (by omega)
 have o0:=eB (a:=((aQ f q).1)) ax (by omega)
 have da:=ht.get ax
 refine Y.ql rfl (aB (j:=Int.toNat ((aQ f q).1)) rfl cQ aV (.t .g1) (.t .z) (by omega) (by first | omega |(simp <;> omega))) ?_
 refine Y.fa rfl .z bS (Y.le rfl eE .z a1 a2 (Y.mv rfl (.s16 .g8) ?_))
 refine Y.cl rfl rfl Tryz.func127 rfl rfl (aR (.t .g1) (.t .z)) .n (fun _ _ hs tr=>sE (tr.ctx a5) _ (by first | assumption | omega |(dsimp only;omega))) ?_
 rintro _ _ ⟨rfl,rfl⟩
 refine Y.m .n ?_
 refine Y.as rfl .z (Y.nt ?_)
 refine Y.ax (γ:=(Option Addr)×Nat×(Option Addr)×Nat×DFs) (fun⟨aj,ah,ak,al,F⟩=> [(14,.pointer (some ⟨g183,0,none⟩)),(13,.string ((aQ f q).2.1)),(12,.int .i64 ((aQ f q).1)),(11,.int .i64 ag.ino),(8,.string ((aQ f p).2.1)),(7,.int .i64 ((aQ f p).1)),(6,.pointer (some ⟨g4,0,none⟩))]) (fun⟨aj,ah,ak,al,F⟩=> [bW g183 27 2 1 [.slice aj F.inodes.length ah,.slice ak F.data.length al],aG aW F.inodes [.slice aj F.inodes.length ah],aG dA F.data [.slice ak F.data.length al],bW g4 155 7 1 [.int .i64 0,.int .i64 0,.int .i64 0,.slice none 0 0,.slice none 0 0,.slice none 0 0,.slice none 0 0],bW g3 27 2 1 [.slice (some ds) f.inodes.length bu,.slice bv f.data.length bw]]) (fun⟨aj,ah,ak,al,F⟩=>Jf F∧F.inodes.length=f.inodes.length∧0≤fG (dH ((aQ f p).2.1)) (aH F.inodes ((aQ f p).1))∧((aH F.inodes ((aQ f q).1)).length≤5∨(((aQ f q).1)=((aQ f p).1)∧(aH F.inodes ((aQ f q).1)).length≤6))) ?_ ?_
 refine Y.seq (Y.region (Y.mv rfl .z (Y.ql rfl (mB rfl (.t .z) .c) (Y.nt ?_))))
 refine Y.u (.t .z) (fun jq=> ?_) (fun jq=> ?_)
 have jr:=gP (dH ((aQ f q).2.1)) a0.ents
 refine Y.seq (Y.region (Y.ql rfl (aS rfl (.t (.s16 (.s16 (.s16 (.s16 .g6))))) (fun _=>aO _ _)) (Y.ld rfl bT .z .g4 (Y.mv rfl (.s16 .g16) ?_))))
 refine Y.ql rfl (aB (j:=Int.toNat ((aQ f q).1)) rfl cQ aV (.t .g1) (.t .z) (by omega) (by first | omega |(simp <;> omega))) ?_
 refine Y.fa rfl .z bS (Y.le rfl eE .z a1 a2 (Y.mv rfl .g8 ?_))
 obtain⟨o1,b8,b9⟩:=bo (by omega)
 subst b8
 obtain⟨js,a7⟩:=aI (xs:=a0.ents) (j:=Int.toNat (fG (dH ((aQ f q).2.1)) a0.ents)) (by first | omega |(simp <;> omega))
 obtain⟨jt,db,dc,dd⟩:=b9.elem a7
 obtain⟨rfl,gc⟩:=fV db
 have ju:=qN da _ _ a7
 refine Y.ql rfl (aB (j:=Int.toNat (fG (dH ((aQ f q).2.1)) a0.ents)) rfl eA gH (.t .g1) (.t .z) (by omega) (by first | omega |(simp <;> omega))) ?_
 refine Y.fa rfl .z iY (Y.le rfl cB .z dc dd (Y.as rfl .z (Y.nt (Y.seq (Y.seq (Y.region (Y.mv rfl .z ?_)))))))
 refine Y.mv rfl (.s16 (.s16 (.s16 .g1))) (Y.ql rfl (bU rfl (.t .g1) (.t .z)) (Y.nt ?_))
 refine Y.u (.t .z) (fun jv=> ?_) (fun jv=> ?_)
 refine Y.seq (Y.region (Y.ql rfl (qW rfl bR (.t (.s16 (.s16 (.s16 (.s16 (.s16 .g4)))))) .g4 aX) ?_))
 refine Y.cl rfl rfl Tryz.func172 rfl rfl (aR (.t .z) .c) .n (fun _ _ hs tr=>gY (aK f (tr.ctx ac) (tr.ctx ad)) _) ?_
 rintro _ _ ⟨ry,rz,r0,r1,rfl,rfl⟩
 refine Y.m (.c (.c (.c (.c .n)))) ?_
 refine Y.h (WS.a .z) ?_
 rintro⟨o2,o3,rfl,jw,jx,jy⟩
 refine Y.h (WS.a .g1) ?_
 rintro⟨o4,o5,rfl,jz,j0,j1⟩
 refine Y.h (WS.a .g2) ?_
 rintro⟨o6,o7,rfl,j2,j3,j4⟩
 refine Y.h (WS.a .g3) ?_
 rintro⟨o8,o9,rfl,j5,j6,j7⟩
 refine Y.es (aE rfl) rfl (esW rfl (.t (.s16 (.s16 (.s16 (.s16 (.s16 .g5)))))) (.t .z) .g7 bD rfl rfl) ?_
 refine Y.nt (Y.ret (Y.j (Y.j ?_)))
 refine Y.i (dF rfl (.s16 (.s16 (.s16 (.s16 (.s16 .g5))))) dO .z bD) (.c .g1 (.c .g1 (.c .g1 (.c .g1 .n)))) ?_
 exact⟨(⟨0,0,0,[],[],(⟨f.inodes,f.data⟩:DFs)⟩:eD),(by first | exact hj | assumption),_,_,_,_,rfl,rfl⟩
 refine Y.skip (Y.g (Y.seq (Y.seq (Y.region (Y.mv rfl (.s16 (.s16 (.s16 .g3))) (Y.mv rfl .g4 ?_))))))
 refine Y.cl rfl rfl Tryz.func177 rfl rfl (eS (.t (.s16 (.s16 (.s16 (.s16 (.s16 .g6)))))) (.t .g1) (.t .z)) .n (fun _ _ hs tr=>aIo (tr.ptr .g4 (aK f (tr.ctx ac) (tr.ctx ad))) _ _ (by first | assumption |(constructor <;> omega)) (by first | assumption |(constructor <;> omega))) ?_
 rintro _ _ ⟨e1,dg,rfl,rfl⟩
 refine Y.m .n ?_
 refine Y.as rfl .z (Y.nt (Y.seq (Y.region (Y.mv rfl .z (Y.ql rfl (bY rfl (.t .z) .c) (Y.nt ?_))))))
 refine Y.ac (.t .z) (fun j8=> ?_) (fun j8=> ?_)
 refine Y.seq (Y.region (Y.ql rfl (qW rfl bR (.t (.s16 (.s16 (.s16 (.s16 (.s16 .g10)))))) .g4 aX) (Y.mv rfl .g3 ?_)))
 refine Y.cl rfl rfl Tryz.func172 rfl rfl (aR (.t .g1) (.t .z)) .n (fun _ _ hs tr=>gY (aK f (tr.ctx ac) (tr.ctx ad)) _) ?_
 rintro _ _ ⟨r2,r3,r4,r5,rfl,rfl⟩
 refine Y.m (.c (.c (.c (.c .n)))) ?_
 refine Y.h (WS.a .z) ?_
 rintro⟨pa,pb,rfl,j9,ka,kb⟩
 refine Y.h (WS.a .g1) ?_
 rintro⟨pc,pd,rfl,kc,kd,ke⟩
 refine Y.h (WS.a .g2) ?_
 rintro⟨pe,pf,rfl,kf,kg,kh⟩
 refine Y.h (WS.a .g3) ?_
 rintro⟨pg,ph,rfl,ki,kj,kk⟩
 refine Y.es (aE rfl) rfl (esW rfl (.t (.s16 (.s16 (.s16 (.s16 (.s16 .g12)))))) (.t .z) .g7 bD rfl rfl) ?_
 refine Y.nt (Y.ret (Y.j (Y.j ?_)))
 refine Y.i (dF rfl (.s16 (.s16 (.s16 (.s16 (.s16 .g12))))) dO .z bD) (.c .g1 (.c .g1 (.c .g1 (.c .g1 .n)))) ?_
 exact⟨(⟨0,e1,0,[],[],(⟨f.inodes,f.data⟩:DFs)⟩:eD),(by first | exact hj | assumption),_,_,_,_,rfl,rfl⟩
 refine Y.skip (Y.g (Y.region (Y.mv rfl (.s16 (.s16 (.s16 .g2))) (Y.mv rfl (.s16 .g7) ?_))))
 obtain⟨aq,dh,ca, -⟩:=lU (show¬fG (dH ((aQ f q).2.1)) a0.ents= -1 by omega)
 refine Y.eq .z (congrArg (Value.int .i64) dh) ?_
 have ay:aq<(aH f.inodes ((aQ f q).1)).length:=by rw [a6];exact ca
 have hFl:(jF f ((aQ f q).1) aq).inodes.length=f.inodes.length:=yO
 refine Y.cl rfl rfl Tryz.func175 rfl rfl (eS (.t (.s16 (.s16 .g1))) (.t .g1) (.t .z)) (.c .z (.c .z (.c .z .n))) (fun _ _ hs tr=>aBm (f:=f) _ _ hs (by assumption) (by first | assumption |(constructor <;> omega)) (by first | omega | assumption)) ?_
 rintro _ _ ⟨r6,r7,rfl,rfl⟩
 refine Y.m (.c (.c (.c .n))) ?_
 refine Y.h (WS.a .g1) ?_
 rintro⟨e2,e3,rfl,kl,km,kn⟩
 refine Y.h (WS.a .g2) ?_
 rintro⟨e4,e5,rfl,ko,kp,kq⟩
 refine Y.nil ?_
 have h6t:=kV ht ((aQ f q).1)
 obtain⟨i0,h8,h9, -⟩:=lU (show¬fG (dH ((aQ f p).2.1)) bx.ents= -1 by omega)
 have ia:fG (dH ((aQ f p).2.1)) (aH f.inodes ((aQ f p).1))=(i0:Int):=by rw [ai];exact h8
 have ib:eX (aH f.inodes ((aQ f p).1)) i0=ag.ino:=by rw [ai];exact nF (by first | exact ba |(rw [show i0=Int.toNat (fG (dH ((aQ f p).2.1)) bx.ents) by omega];exact ba))
 have ef:eX (aH f.inodes ((aQ f q).1)) aq=js.ino:=by rw [a6];exact nF (by first | exact a7 |(rw [show aq=Int.toNat (fG (dH ((aQ f q).2.1)) a0.ents) by omega];exact a7))
 have hst:=yM hj (by assumption) (by assumption) ia ay (by rw [ef,ib];first | assumption | omega) (by rw [ef];first | assumption | exact dg (by omega))
 have hsh:=tF (f:=f) (a:=((aQ f q).1)) (i:=aq) (by omega) ay
 exact Y.au (e2,e3,e4,e5,(jF f ((aQ f q).1) aq)) ⟨by first | exact hj | exact jI hj _ _,by first | rfl | assumption,hst,by first | omega |(left;omega) |(right;omega)⟩ (.c (.s16 (.s16 .g2)) (.c (.s16 (.s16 (.s16 .g4))) (.c (.s16 (.s16 (.s16 .g5))) (.c (.s16 (.s16 (.s16 .g12))) (.c (.s16 (.s16 (.s16 (.s16 (.s16 .g4))))) (.c (.s16 (.s16 (.s16 (.s16 (.s16 .g5))))) (.c (.s16 (.s16 (.s16 (.s16 (.s16 .g12))))) .n))))))) (fun _ h=>h.sel (.c .z (.c .z (.c .z (.c .z (.c .z .n))))))
 have kr:=gP (dH ((aQ f q).2.1)) a0.ents
 refine Y.seq (Y.region (Y.mv rfl (.s16 .g14) (Y.mv rfl (.s16 (.s16 (.s16 .g15))) (Y.ql rfl (bY rfl (.t .g1) (.t .z)) (Y.mv rfl .z ?_)))))
 refine Y.ao .z (fun g228=> ?_) (fun g228=> ?_)
 refine Y.qg rfl rfl .z rfl rfl rfl (aS rfl (.t (.s16 (.s16 (.s16 (.s16 .g10))))) (fun _=>aO _ _)) ?_
 refine Y.qg rfl rfl .g1 rfl rfl rfl (aP rfl bT (.t .z) (WS.h .g4 rfl)) ?_
 refine Y.qg rfl rfl .g2 rfl rfl rfl (aN rfl (.t (.s16 (.s16 .g4)))) ?_
 refine Y.qg rfl rfl .g3 rfl rfl rfl (aB (j:=Int.toNat ((aQ f q).1)) rfl cQ aV (.t .g1) (.t .z) (by omega) (by first | omega |(simp <;> omega))) ?_
 refine Y.qg rfl rfl .g4 rfl rfl rfl (aS rfl (.t .z) (fun _=>bS _ _)) ?_
 refine Y.qg rfl rfl .g5 rfl rfl rfl (aP rfl eE (.t .z) (WS.el a1 a2 rfl)) ?_
 refine Y.qg rfl rfl .g6 rfl rfl rfl (bE rfl eA (.t .z)) ?_
 refine Y.qg rfl rfl .g7 rfl rfl rfl (mB rfl (.t .z) .c) ?_
 refine Y.ql rfl (aZ rfl (.t .g8) (.t .z)) (Y.nt ?_)
 refine Y.u (.t .z) (fun ks=> ?_) (fun ks=> ?_)
 refine Y.seq (Y.region (Y.ql rfl (qW rfl bR (.t (.s16 (.s16 (.s16 (.s16 (.s16 .g3)))))) .g4 aX) ?_))
 refine Y.cl rfl rfl Tryz.func172 rfl rfl (aR (.t .z) .c) .n (fun _ _ hs tr=>gY (aK f (tr.ctx ac) (tr.ctx ad)) _) ?_
 rintro _ _ ⟨r8,r9,sa,sd,rfl,rfl⟩
 refine Y.m (.c (.c (.c (.c .n)))) ?_
 refine Y.h (WS.a .z) ?_
 rintro⟨pi,pj,rfl,kt,ku,kv⟩
 refine Y.h (WS.a .g1) ?_
 rintro⟨pk,pl,rfl,kw,kx,ky⟩
 refine Y.h (WS.a .g2) ?_
 rintro⟨pm,pn,rfl,kz,k0,k1⟩
 refine Y.h (WS.a .g3) ?_
 rintro⟨po,pp,rfl,k2,k3,k4⟩
 refine Y.es (aE rfl) rfl (esW rfl (.t (.s16 (.s16 (.s16 (.s16 (.s16 .g4)))))) (.t .z) .g7 bD rfl rfl) ?_
 refine Y.nt (Y.ret (Y.j ?_))
 refine Y.i (dF rfl (.s16 (.s16 (.s16 (.s16 (.s16 .g4))))) dO .z bD) (.c .g1 (.c .g1 (.c .g1 (.c .g1 .n)))) ?_
 exact⟨(⟨0,2,0,[],[],(⟨f.inodes,f.data⟩:DFs)⟩:eD),(by first | exact hj | assumption),_,_,_,_,rfl,rfl⟩
 refine Y.skip ?_
 have h6t:=kV ht ((aQ f q).1)
 have hst:0≤fG (dH ((aQ f p).2.1)) (aH f.inodes ((aQ f p).1)):=by rw [ai];omega
 have it:=congrArg List.length ai;have iu:=congrArg List.length b0;have iv:=congrArg List.length a6
 exact Y.au (ck,cm,cn,co,f) ⟨by first | exact hj | exact jI hj _ _,by first | rfl | assumption,hst,by first | omega |(left;omega) |(right;omega)⟩ (.c (.s16 .g8) (.c (.s16 (.s16 .g10)) (.c (.s16 (.s16 .g11)) (.c (.s16 (.s16 (.s16 .g2))) (.c (.s16 (.s16 (.s16 (.s16 .g10)))) (.c (.s16 (.s16 (.s16 (.s16 .g11)))) (.c (.s16 (.s16 (.s16 (.s16 (.s16 .g2))))) .n))))))) (fun _ h=>h.sel (.c .z (.c .z (.c .z (.c .z (.c .z .n))))))
 refine Y.r rfl rfl .z rfl rfl (by decide) rfl ?_
 refine Y.r rfl rfl .g1 rfl rfl (by decide) rfl ?_
 refine Y.r rfl rfl .g2 rfl rfl (by decide) rfl ?_
 refine Y.r rfl rfl .g3 rfl rfl (by decide) rfl ?_
 refine Y.r rfl rfl .g4 rfl rfl (by decide) rfl ?_
 refine Y.r rfl rfl .g5 rfl rfl (by decide) rfl ?_
 refine Y.r rfl rfl .g6 rfl rfl (by decide) rfl ?_
 refine Y.r rfl rfl .g7 rfl rfl (by decide) rfl ?_
 refine Y.ql rfl (bJ rfl (.t .g8) .c) (Y.nt ?_)
 refine Y.an (.t .z) ?_
 refine Y.skip ?_
 have h6t:=kV ht ((aQ f q).1)
 have hst:0≤fG (dH ((aQ f p).2.1)) (aH f.inodes ((aQ f p).1)):=by rw [ai];omega
 have it:=congrArg List.length ai;have iu:=congrArg List.length b0;have iv:=congrArg List.length a6
 exact Y.au (ck,cm,cn,co,f) ⟨by first | exact hj | exact jI hj _ _,by first | rfl | assumption,hst,by first | omega |(left;omega) |(right;omega)⟩ (.c (.s16 .g8) (.c (.s16 (.s16 .g10)) (.c (.s16 (.s16 .g11)) (.c (.s16 (.s16 (.s16 .g2))) (.c (.s16 (.s16 (.s16 (.s16 .g10)))) (.c (.s16 (.s16 (.s16 (.s16 .g11)))) (.c (.s16 (.s16 (.s16 (.s16 (.s16 .g2))))) .n))))))) (fun _ h=>h.sel (.c .z (.c .z (.c .z (.c .z (.c .z .n))))))
 rintro⟨aj,ah,ak,al,F⟩ ⟨hJF,hFl,hst,iw⟩
 refine Y.seq (Y.region (Y.mv rfl .g5 (Y.fa rfl .g1 aO (Y.ld rfl bT .z .z (Y.mv rfl .g8 ?_)))))
 refine Y.ab (.c .g1 .n) fP ?_
 rintro e7 a8
 obtain⟨az,ar⟩:=aI (xs:=F.inodes) (j:=Int.toNat ((aQ f p).1)) (by first | omega |(simp <;> omega))
 obtain⟨se,bp⟩:=aI (xs:=e7) (j:=Int.toNat ((aQ f p).1)) (by rw [a8];exact(List.getElem?_eq_some_iff.1 ar).1)
 refine Y.aq .g1 (eG ar bp) ?_
 refine Y.ab (.c .z .n) fC ?_
 rintro⟨sf,sg⟩ rfl
 refine Y.h (WS.a .z) ?_
 rintro⟨fb,fc,rfl,k5,k6,k7⟩
 refine Y.h (WS.a .g1) ?_
 rintro⟨fd,fe,rfl,k8,k9,la⟩
 have pq:=dC (i:=((aQ f p).1)) ar (by omega)
 have cp:=dE (a:=((aQ f p).1)) ar (by omega)
 have pr:=eB (a:=((aQ f p).1)) ar (by omega)
 refine Y.h (WS.g .g4 (by first | omega |(simp <;> omega) |(simp only [List.length_append,List.length_cons,List.length_nil,List.length_set] at *;omega))) ?_
 rintro⟨ff,rfl⟩
 refine Y.ql rfl (aB (j:=Int.toNat ((aQ f p).1)) rfl cQ aV (.t .g1) (.t .z) (by omega) (by first | omega |(simp <;> omega))) ?_
 refine Y.fa rfl .z bS (Y.ql rfl (aP rfl eE (.t .z) (WS.j .g4 bp rfl)) (Y.mv rfl .g11 ?_))
 refine Y.cl rfl rfl Tryz.func127 rfl rfl (aR (.t .g1) (.t .z)) .n (fun _ _ hs tr=>sE (tr.own .g1) _ (by first | assumption | omega |(dsimp only;omega))) ?_
 rintro _ _ ⟨rfl,rfl⟩
 refine Y.m .n ?_
 refine Y.af (c:=aG cD az [.int .i64 az.kind,.int .i64 az.links,.int .i64 az.size,.slice fb az.blocks.length fc,.slice fd az.ents.length fe]) (.c .z (.c .z .n)) (fun w S h=>cS az h) ?_
 refine Y.af (c:=aG aW F.inodes [.slice (some ff) F.inodes.length ah]) (.c .g3 (.c .z (.c .z (.c .z .n)))) (eM (K:=cD) a8 ar bp) ?_
 rw [cp] at hst
 obtain⟨af,di,cb, -⟩:=lU (show¬fG (dH ((aQ f p).2.1)) az.ents= -1 by omega)
 refine Y.eq .z (congrArg (Value.int .i64) di) ?_
 have bq:af<(aH F.inodes ((aQ f p).1)).length:=by rw [cp];exact cb
 have hrl:=aEo (F:=F) (d:=((aQ f p).1)) (t:=((aQ f q).1)) (i:=af) (by rw [hFl];assumption) (by rw [hFl];assumption) bq
 have hJG:Jf (dJ F ((aQ f p).1) (List.eraseIdx (aH F.inodes ((aQ f p).1)) af)):=vW hJF
 have hGl:(dJ F ((aQ f p).1) (List.eraseIdx (aH F.inodes ((aQ f p).1)) af)).inodes.length=f.inodes.length:=dI.trans hFl
 refine Y.cl rfl rfl Tryz.func178 rfl rfl (eS (.t .g9) (.t .g8) (.t .z)) (.c .g1 (.c .z (.c .z .n))) (fun _ _ hs tr=>aG6 (f:=F) _ _ hs (by first | assumption |(constructor <;> omega)) (by omega)) ?_
 rintro _ _ ⟨sh,si,rfl,rfl⟩
 refine Y.m (.c (.c (.c .n))) ?_
 refine Y.h (WS.a .g1) ?_
 rintro⟨ps,cq,rfl,lb,lc,lf⟩
 refine Y.h (WS.a .g2) ?_
 rintro⟨fg,fh,rfl,lg,lh,li⟩
 refine Y.nt (Y.seq ?_)
 refine Y.ab (.c .g1 .n) fP ?_
 rintro cr a9
 obtain⟨ab,an⟩:=aI (xs:=(dJ F ((aQ f p).1) (List.eraseIdx (aH (F).inodes ((aQ f p).1)) af)).inodes) (j:=Int.toNat ((aQ f q).1)) (by first | omega |(simp <;> omega))
 obtain⟨sj,br⟩:=aI (xs:=cr) (j:=Int.toNat ((aQ f q).1)) (by rw [a9];exact(List.getElem?_eq_some_iff.1 an).1)
 refine Y.aq .g1 (eG an br) ?_
 refine Y.ab (.c .z .n) fC ?_
 rintro⟨sm,sn⟩ rfl
 refine Y.h (WS.a .z) ?_
 rintro⟨ct,cu,rfl,lj,lk,ll⟩
 refine Y.h (WS.a .g1) ?_
 rintro⟨pt,pu,rfl,lm,ln,lo⟩
 have pv:=dC (i:=((aQ f q).1)) an (by omega)
 have fi:=dE (a:=((aQ f q).1)) an (by omega)
 have pw:=eB (a:=((aQ f q).1)) an (by omega)
 have hyl:ab.ents.length≤5:=by have e8:=congrArg List.length fi;exact iw.elim (fun h5=>by first | omega |(simp only [dJ] at *;omega)) (fun h5=>by have e9:=hrl.2 h5.1;first | omega |(simp only [dJ] at *;omega))
 refine Y.sel (.c .z (.c .z (.c .g4 (.c .z (.c .z (.c .z (.c .z (.c .z (.c .z .n))))))))) ?_
 refine Y.dr .g3 15 gE ?_
 refine Y.sc (qs 0 12++ [(12,false),(13,false),(14,true),(15,false)]) (by kernel_rfl) ?_
 refine Y.df rfl rfl .g3 .g10 aO (Y.dl rfl rfl .g3 bT .z .g3 (Y.dm rfl rfl .g3 .g14 (Y.df rfl rfl .g3 .g13 aO (Y.dl rfl rfl .g3 bT .z .g3 (Y.dm rfl rfl .g3 (.s16 .g1) ?_)))))
 refine Y.h (WS.g .g5 (by first | omega |(simp <;> omega) |(simp only [List.length_append,List.length_cons,List.length_nil,List.length_set] at *;omega))) ?_
 rintro⟨cv,rfl⟩
 refine Y.dk rfl rfl .g3 (aB (j:=Int.toNat ((aQ f q).1)) rfl cQ aV (.t .g1) (.t .z) (by omega) (by first | omega |(simp <;> omega))) ?_
 refine Y.df rfl rfl .g3 .z bS (Y.dk rfl rfl .g3 (aP rfl eE (.t .z) (WS.j .g2 br rfl)) (Y.dm rfl rfl .g3 (.s16 .g4) (Y.dm rfl rfl .g3 (.s16 .g7) (Y.dk rfl rfl .g3 (bC (cs:= [.string ((aQ f q).2.1),.int .i64 ag.ino]) rfl tA (pv2 (.t .g1) (.t .z)) rfl) ?_))))
 refine Y.call (aC rfl rfl) rfl (by decide) rfl (bG rfl Tryz.func128 rfl rfl (aR (.t .g3) (.t .z))) .n (fun _ _ hs tr=>aD7 (tr.own .g1) (tM (⟨(aQ f q).2.1,ag.ino⟩:bV) (by first | assumption | omega |(dsimp only;omega))) (by omega)) ?_
 rintro _ _ rfl
 refine Y.m (.c .n) ?_
 refine Y.h (WS.a .z) ?_
 rintro⟨bs,bt,rfl,lp,lq,lr⟩
 refine Y.sk .g4 ?_
 refine Y.q (aC rfl rfl) rfl (by decide) rfl (aB (j:=Int.toNat ((aQ f q).1)) rfl cQ aV (.t .g11) (.t .g10) (by omega) (by first | omega |(simp <;> omega))) ?_
 refine Y.sk .g4 ?_
 refine Y.df rfl rfl .g4 .z bS ?_
 refine Y.es (aC rfl rfl) rfl (kE (j:=Int.toNat ((aQ f q).1)) (off:=4) (cs:= [.slice bs (gN ab.ents (⟨(aQ f q).2.1,ag.ino⟩:bV)).length bt]) rfl qD (.t .z) (iM _ _ _) (.t .g2) rfl (oM rfl) .g6 br (Nat.le_of_ble_eq_true rfl)) ?_
 refine Y.ah (x':=List.set cr (Int.toNat ((aQ f q).1)) [.int .i64 ab.kind,.int .i64 ab.links,.int .i64 ab.size,.slice ct ab.blocks.length cu,.slice bs (gN ab.ents (⟨(aQ f q).2.1,ag.ino⟩:bV)).length bt]) .z rfl ?_
 refine Y.sl rfl ?_
 refine Y.aa ?_
 refine Y.ai (by kernel_rfl) ?_
 refine Y.g (Y.seq (Y.region (Y.ql rfl (qW rfl bR (.t (.s16 .g9)) .g7 aX) (Y.ql rfl (bC (cs:= [.int .i64 0,.int .i64 0,.int .i64 0,.slice none 0 0,.slice none 0 0,.slice (some cv) ((dJ F ((aQ f p).1) (List.eraseIdx (aH (F).inodes ((aQ f p).1)) af)).inodes).length cq,.slice fg ((dJ F ((aQ f p).1) (List.eraseIdx (aH (F).inodes ((aQ f p).1)) af)).data).length fh]) rfl mR (pv1 (.t .z)) rfl) ?_))))
 refine Y.es (aE rfl) rfl (esW rfl (.t (.s16 (.s16 .g1))) (.t .z) .g8 bD rfl rfl) ?_
 refine Y.nt (Y.ret ?_)
 refine Y.af (c:=aG cD (⟨ab.kind,ab.links,ab.size,ab.blocks,gN ab.ents (⟨(aQ f q).2.1,ag.ino⟩:bV)⟩:aF) [.int .i64 ab.kind,.int .i64 ab.links,.int .i64 ab.size,.slice ct ab.blocks.length cu,.slice bs (gN ab.ents (⟨(aQ f q).2.1,ag.ino⟩:bV)).length bt]) (.c .g3 (.c .g2 .n)) (fun w S h=>cS (⟨ab.kind,ab.links,ab.size,ab.blocks,gN ab.ents (⟨(aQ f q).2.1,ag.ino⟩:bV)⟩:aF) h) ?_
 refine Y.af (c:=aG aW (List.set ((dJ F ((aQ f p).1) (List.eraseIdx (aH (F).inodes ((aQ f p).1)) af)).inodes) (Int.toNat ((aQ f q).1)) (⟨ab.kind,ab.links,ab.size,ab.blocks,gN ab.ents (⟨(aQ f q).2.1,ag.ino⟩:bV)⟩:aF)) [.slice (some cv) ((dJ F ((aQ f p).1) (List.eraseIdx (aH (F).inodes ((aQ f p).1)) af)).inodes).length cq]) (.c .g2 (.c .z (.c .g3 (.c .g3 .n)))) (eT (K:=cD) a9 (List.getElem?_eq_some_iff.1 an).1 rfl) ?_
 refine Y.add (c:=aG bQ [] [.slice none 0 0]) (fun w S=>aL w S none) ?_
 refine Y.add (c:=aG fM [] [.slice none 0 0]) (fun w S=>aL w S none) ?_
 refine Y.i (dF rfl (.s16 (.s16 .g1)) dO .g3 bD) (.c .g1 (.c .z (.c .z (.c .g2 .n)))) ?_
 exact⟨(⟨0,0,0,[],[],(⟨List.set ((dJ F ((aQ f p).1) (List.eraseIdx (aH (F).inodes ((aQ f p).1)) af)).inodes) (Int.toNat ((aQ f q).1)) (⟨ab.kind,ab.links,ab.size,ab.blocks,gN ab.ents (⟨(aQ f q).2.1,ag.ino⟩:bV)⟩:aF),(dJ F ((aQ f p).1) (List.eraseIdx (aH (F).inodes ((aQ f p).1)) af)).data⟩:DFs)⟩:eD),(by first | exact hj | assumption | exact aHj hJG an hyl (by rw [hGl];constructor <;>(dsimp only;omega)) (by dsimp only;omega)),_,_,_,_,rfl,rfl⟩

end Go.Proofs.YtmejbfmhaoilmaaGreat

/- What is proved: contracts of functions, one a function. No condition. -/
import Derived.Test.YtmejbfmhaoilmaaGreatBase1
import Derived.Test.YtmejbfmhaoilmaaGreatW82
namespace Go.Proofs.YtmejbfmhaoilmaaGreat
open Go Go.RowKit
set_option linter.unusedVariables false
set_option linter.unusedSimpArgs false
set_option maxHeartbeats 1000000
set_option maxRecDepth 20000
theorem aMg {w0:World}{S0:Bs}{f:DFs}{ls:List Value} (h0:eS.ro w0 (FF w0 S0) f ls) (p:ByteArray) (so:p.size≤140737488351232) (q:ByteArray) (sp:q.size≤140737488351232) (hj:Jf f):
    Calls Tryz.prog 159 #[.agg ls.toArray,.string p,.string q] w0 (aI w0 S0 (fun r l=>∃x:eB,Jf x.fs∧rI x r l)):=by
 obtain⟨px,py,rfl,ac,ad⟩:=cQ h0
 obtain⟨dj,bu,rfl,lu,lv,lw,dp⟩:=aD ac
 obtain⟨bv,bw,rfl,lx,ly,lz,l1⟩:=aD ad
 have ht:J0 f:=hj.toJ0
 have sq:=hj.n.2
 have sr:=hj.n.1
 refine Y.enter (N:=156) Tryz.func159 rfl rfl (by simp) [(0,.agg #[.slice dj f.inodes.length bu,.slice bv f.data.length bw]),(1,.string p),(2,.string q)] (by simp) (l0:= []) trivial ?_
 refine Y.seq (Y.region ?_)
 refine Y.el rfl (fR (cs:= [.slice dj f.inodes.length bu,.slice bv f.data.length bw]) (n:=2) rfl (.t .z) rfl rfl) ?_
 rintro _ _ ⟨g3,rfl,rfl⟩
 refine Y.el rfl (bD rfl tA rfl rfl) ?_
 rintro _ _ ⟨g4,rfl,rfl⟩
 refine Y.nt (Y.seq (Y.region (Y.mv rfl .g3 ?_)))
 refine Y.cl rfl rfl Tryz.func171 rfl rfl (aR (.t .g2) (.t .z)) .n (fun _ _ hs tr=>wR (tr.ptr .g1 (aM f (tr.ctx ac) (tr.ctx ad))) _ (by first | assumption | omega |(dsimp only;omega)) (by assumption)) ?_
 rintro _ _ ⟨rfl,rfl⟩
 refine Y.r .n ?_
 have l2:=nM (f:=f) (s:=p)
 have l3:=lS ht p
 refine Y.mv rfl .z (Y.ql rfl (bL (v:= .int .i64 ((aQ f p).1)) rfl (.t .z) rfl) (Y.ql rfl (bL (v:= .string ((aQ f p).2.1)) rfl (.t .g1) rfl) (Y.ql rfl (bL (v:= .int .i64 ((aQ f p).2.2)) rfl (.t .g2) rfl) (Y.as rfl .g2 (Y.as rfl .g2 (Y.as rfl .g2 (Y.nt ?_)))))))
 refine Y.seq (Y.seq (Y.region (Y.mv rfl .z (Y.ql rfl (cC rfl (.t .z) .c) (Y.nt ?_)))))
 refine Y.ad (.t .z) (fun b7=> ?_) (fun b7=> ?_)
 refine Y.seq (Y.region (Y.ql rfl (qW rfl bN (.t .g12) .g1 aX) (Y.mv rfl .g3 ?_)))
 refine Y.cl rfl rfl Tryz.func172 rfl rfl (aR (.t .g1) (.t .z)) .n (fun _ _ hs tr=>gX (aM f (tr.ctx ac) (tr.ctx ad)) _) ?_
 rintro _ _ ⟨v8,ss,st,su,rfl,rfl⟩
 refine Y.r (.c (.c (.c (.c .n)))) ?_
 refine Y.i (WS.a .z) ?_
 rintro⟨pz,p0,rfl,l4,l5,l6⟩
 refine Y.i (WS.a .g1) ?_
 rintro⟨p1,p2,rfl,l7,l8,l9⟩
 refine Y.i (WS.a .g2) ?_
 rintro⟨p3,p4,rfl,ma,mb,mc⟩
 refine Y.i (WS.a .g3) ?_
 rintro⟨p5,p6,rfl,md,me,mf⟩
 refine Y.es (aE rfl) rfl (esW rfl (.t .g14) (.t .z) .g4 bA rfl rfl) ?_
 refine Y.nt (Y.ret (Y.m ?_))
 refine Y.j (dA rfl .g14 dO .z bA) (.c .g1 (.c .g1 (.c .g1 (.c .g1 .n)))) ?_
 exact⟨(⟨0,((aQ f p).2.2),0,[],[],(⟨f.inodes,f.data⟩:DFs)⟩:eB),(by first | exact hj | assumption),_,_,_,_,rfl,rfl⟩
 refine Y.skip (Y.g (Y.seq (Y.region (Y.fa rfl .g12 aP (Y.ld rfl bO .z .g1 (Y.mv rfl .g6 ?_))))))
 obtain⟨ds,cw,au⟩:=dp (by omega)
 subst cw
 obtain⟨bx,bb⟩:=aJ (xs:=f.inodes) (j:=Int.toNat ((aQ f p).1)) (by first | omega |(simp <;> omega))
 obtain⟨mg,dt,cc,cd⟩:=au.elem bb
 obtain⟨gd,ge,rfl,cx,bc⟩:=bV dt
 obtain⟨gf,gg,rfl,fj,fk,fl,fm⟩:=aD cx
 obtain⟨gh,gi,rfl,fn,fo,fp,bz⟩:=aD bc
 have p7:=cZ (i:=((aQ f p).1)) bb (by omega)
 have ai:=dD (a:=((aQ f p).1)) bb (by omega)
 have p8:=dZ (a:=((aQ f p).1)) bb (by omega)
 have du:=ht.get bb
 refine Y.ql rfl (aB (j:=Int.toNat ((aQ f p).1)) rfl cI aU (.t .g1) (.t .z) (by omega) (by first | omega |(simp <;> omega))) ?_
 refine Y.fa rfl .z bM (Y.le rfl eA .z cc cd (Y.mv rfl .g9 ?_))
 refine Y.cl rfl rfl Tryz.func127 rfl rfl (aR (.t .g1) (.t .z)) .n (fun _ _ hs tr=>sD (tr.ctx bc) _ (by first | assumption | omega |(dsimp only;omega))) ?_
 rintro _ _ ⟨rfl,rfl⟩
 refine Y.r .n ?_
 refine Y.as rfl .z (Y.nt (Y.seq (Y.seq (Y.region (Y.mv rfl .z (Y.ql rfl (cU rfl (.t .z) .c) (Y.nil ?_)))))))
 refine Y.g ?_
 refine Y.u (.t .z) (fun p9=> ?_) (fun p9=> ?_)
 have mh:=gM (dG ((aQ f p).2.1)) bx.ents
 refine Y.seq (Y.region (Y.ql rfl (qW rfl bN (.t (.s16 .g7)) .g1 aX) ?_))
 refine Y.cl rfl rfl Tryz.func172 rfl rfl (aR (.t .z) .c) .n (fun _ _ hs tr=>gX (aM f (tr.ctx ac) (tr.ctx ad)) _) ?_
 rintro _ _ ⟨sv,sw,sx,sy,rfl,rfl⟩
 refine Y.r (.c (.c (.c (.c .n)))) ?_
 refine Y.i (WS.a .z) ?_
 rintro⟨qa,qb,rfl,mi,mj,mk⟩
 refine Y.i (WS.a .g1) ?_
 rintro⟨qc,qd,rfl,ml,mm,mn⟩
 refine Y.i (WS.a .g2) ?_
 rintro⟨qe,qf,rfl,mo,mp,mq⟩
 refine Y.i (WS.a .g3) ?_
 rintro⟨qh,qi,rfl,mr,ms,mt⟩
 refine Y.es (aE rfl) rfl (esW rfl (.t (.s16 .g8)) (.t .z) .g4 bA rfl rfl) ?_
 refine Y.nt (Y.ret (Y.m ?_))
 refine Y.j (dA rfl (.s16 .g8) dO .z bA) (.c .g1 (.c .g1 (.c .g1 (.c .g1 .n)))) ?_
 exact⟨(⟨0,4,0,[],[],(⟨f.inodes,f.data⟩:DFs)⟩:eB),(by first | exact hj | assumption),_,_,_,_,rfl,rfl⟩
 have mu:=gM (dG ((aQ f p).2.1)) bx.ents
 refine Y.skip (Y.g (Y.seq (Y.region (Y.fa rfl (.s16 .g7) aP (Y.ld rfl bO .z .g1 (Y.mv rfl (.s16 .g1) ?_))))))
 refine Y.ql rfl (aB (j:=Int.toNat ((aQ f p).1)) rfl cI aU (.t .g1) (.t .z) (by omega) (by first | omega |(simp <;> omega))) ?_
 refine Y.fa rfl .z bM (Y.le rfl eA .z cc cd (Y.mv rfl .g8 ?_))
 obtain⟨qj,cy,cz⟩:=bz (by omega)
 subst cy
 obtain⟨ag,ba⟩:=aJ (xs:=bx.ents) (j:=Int.toNat (fC (dG ((aQ f p).2.1)) bx.ents)) (by first | omega |(simp <;> omega))
 obtain⟨mw,dv,dw,dx⟩:=cz.elem ba
 obtain⟨rfl,gj⟩:=fF dv
 have mx:=qL du _ _ ba
 refine Y.ql rfl (aB (j:=Int.toNat (fC (dG ((aQ f p).2.1)) bx.ents)) rfl dQ fS (.t .g1) (.t .z) (by omega) (by first | omega |(simp <;> omega))) ?_
 refine Y.fa rfl .z iU (Y.le rfl bR .z dw dx (Y.as rfl .z (Y.nt (Y.seq (Y.region (Y.mv rfl (.s16 (.s16 .g5)) ?_))))))
 refine Y.cl rfl rfl Tryz.func171 rfl rfl (aR (.t (.s16 (.s16 .g3))) (.t .z)) .n (fun _ _ hs tr=>wR (tr.ptr .g1 (aM f (tr.ctx ac) (tr.ctx ad))) _ (by first | assumption | omega |(dsimp only;omega)) (by assumption)) ?_
 rintro _ _ ⟨rfl,rfl⟩
 refine Y.r .n ?_
 have gk:=nM (f:=f) (s:=q)
 have gl:=lS ht q
 refine Y.mv rfl .z (Y.ql rfl (bL (v:= .int .i64 ((aQ f q).1)) rfl (.t .z) rfl) (Y.ql rfl (bL (v:= .string ((aQ f q).2.1)) rfl (.t .g1) rfl) (Y.ql rfl (bL (v:= .int .i64 ((aQ f q).2.2)) rfl (.t .g2) rfl) (Y.as rfl .g2 (Y.as rfl .g2 (Y.er (.s16 .g16) (Y.as rfl .g2 (Y.nil ?_))))))))
 refine Y.g (Y.seq (Y.seq (Y.region (Y.mv rfl .z (Y.ql rfl (cC rfl (.t .z) .c) (Y.nt ?_))))))
 refine Y.ad (.t .z) (fun qk=> ?_) (fun qk=> ?_)
 refine Y.seq (Y.region (Y.ql rfl (qW rfl bN (.t (.s16 (.s16 .g12))) .g1 aX) (Y.mv rfl .g3 ?_)))
 refine Y.cl rfl rfl Tryz.func172 rfl rfl (aR (.t .g1) (.t .z)) .n (fun _ _ hs tr=>gX (aM f (tr.ctx ac) (tr.ctx ad)) _) ?_
 rintro _ _ ⟨s0,s1,s2,s3,rfl,rfl⟩
 refine Y.r (.c (.c (.c (.c .n)))) ?_
 refine Y.i (WS.a .z) ?_
 rintro⟨qm,qn,rfl,my,mz,m0⟩
 refine Y.i (WS.a .g1) ?_
 rintro⟨qo,qp,rfl,m1,m2,m3⟩
 refine Y.i (WS.a .g2) ?_
 rintro⟨qq,qr,rfl,m4,m5,m6⟩
 refine Y.i (WS.a .g3) ?_
 rintro⟨qt,qu,rfl,m7,m8,m9⟩
 refine Y.es (aE rfl) rfl (esW rfl (.t (.s16 (.s16 .g14))) (.t .z) .g4 bA rfl rfl) ?_
 refine Y.nt (Y.ret (Y.m ?_))
 refine Y.j (dA rfl (.s16 (.s16 .g14)) dO .z bA) (.c .g1 (.c .g1 (.c .g1 (.c .g1 .n)))) ?_
 exact⟨(⟨0,((aQ f q).2.2),0,[],[],(⟨f.inodes,f.data⟩:DFs)⟩:eB),(by first | exact hj | assumption),_,_,_,_,rfl,rfl⟩
 refine Y.skip (Y.g (Y.seq (Y.seq (Y.region (Y.fa rfl (.s16 (.s16 .g12)) aP (Y.ld rfl bO .z .g1 (Y.mv rfl .g13 ?_)))))))
 obtain⟨s4,bd⟩:=aJ (xs:=f.inodes) (j:=Int.toNat ag.ino) (by first | omega |(simp <;> omega))
 obtain⟨na,dy,dz,d0⟩:=au.elem bd
 obtain⟨gm,gn,rfl,c0,c1⟩:=bV dy
 obtain⟨go,gp,rfl,fq,fr,ft,fu⟩:=aD c0
 obtain⟨gq,gr,rfl,fv,fw,fx,fy⟩:=aD c1
 have qv:=cZ (i:=ag.ino) bd (by omega)
 have b0:=dD (a:=ag.ino) bd (by omega)
 have qw:=dZ (a:=ag.ino) bd (by omega)
 have nb:=ht.get bd
 refine Y.ql rfl (aB (j:=Int.toNat ag.ino) rfl cI aU (.t .g1) (.t .z) (by omega) (by first | omega |(simp <;> omega))) ?_
 refine Y.fa rfl .z bW (Y.le rfl bR .z dz d0 (Y.ql rfl (bP rfl (.t .z) .c) (Y.mv rfl .z ?_)))
 refine Y.ak .z (fun g62=> ?_) (fun g62=> ?_)
 refine Y.qg rfl rfl .z rfl rfl rfl (aS rfl (.t .g12)) ?_
 refine Y.qg rfl rfl .g1 rfl rfl rfl (aS rfl (.t (.s16 .g4))) ?_
 refine Y.call (dX rfl rfl .g2) rfl (by decide) rfl (bF rfl Tryz.func176 rfl rfl (nO (.t (.s16 (.s16 (.s16 .g6)))) (.t .g1) (.t .z) .c)) .n (fun _ _ hs tr=>aKc (tr.ptr .g1 (aM f (tr.ctx ac) (tr.ctx ad))) _ _ _ (by assumption) (by first | assumption |(constructor <;> omega)) 10 (by omega) (by omega)) ?_
 rintro _ _ ⟨rfl,rfl⟩
 refine Y.r .n ?_
 refine Y.ql rfl (bB rfl (.t .g3) (.t .z)) (Y.nt ?_)
 refine Y.cond (.t .z) (fun qx=> ?_) (fun qx=> ?_)
 refine Y.seq (Y.region (Y.ql rfl (qW rfl bN (.t (.s16 (.s16 (.s16 .g8)))) .g1 aX) ?_))
 refine Y.cl rfl rfl Tryz.func172 rfl rfl (aR (.t .z) .c) .n (fun _ _ hs tr=>gX (aM f (tr.ctx ac) (tr.ctx ad)) _) ?_
 rintro _ _ ⟨s5,s6,s7,s8,rfl,rfl⟩
 refine Y.r (.c (.c (.c (.c .n)))) ?_
 refine Y.i (WS.a .z) ?_
 rintro⟨qy,qz,rfl,nd,ne,nf⟩
 refine Y.i (WS.a .g1) ?_
 rintro⟨q0,q1,rfl,ng,nh,ni⟩
 refine Y.i (WS.a .g2) ?_
 rintro⟨q2,q3,rfl,nj,nk,nl⟩
 refine Y.i (WS.a .g3) ?_
 rintro⟨q4,q5,rfl,nm,nn,no⟩
 refine Y.es (aE rfl) rfl (esW rfl (.t (.s16 (.s16 (.s16 .g9)))) (.t .z) .g4 bA rfl rfl) ?_
 refine Y.nt (Y.ret (Y.m ?_))
 refine Y.j (dA rfl (.s16 (.s16 (.s16 .g9))) dO .z bA) (.c .g1 (.c .g1 (.c .g1 (.c .g1 .n)))) ?_
 exact⟨(⟨0,1,0,[],[],(⟨f.inodes,f.data⟩:DFs)⟩:eB),(by first | exact hj | assumption),_,_,_,_,rfl,rfl⟩
 refine Y.skip (Y.g (Y.seq (Y.region (Y.ql rfl (qW rfl bN (.t (.s16 (.s16 (.s16 .g8)))) .g1 aX) ?_))))
 refine Y.cl rfl rfl Tryz.func67 rfl rfl (bH (.t .z)) .n (fun _ _ hs tr=>uY (aM f (tr.ctx ac) (tr.ctx ad))) ?_
 rintro _ _ ⟨s9,ta,rfl,rfl⟩
 refine Y.r (.c (.c .n)) ?_
 refine Y.i (WS.a .z) ?_
 rintro⟨d1,d2,rfl,np,nq,nr⟩
 refine Y.i (WS.a .g1) ?_
 rintro⟨d3,d4,rfl,ns,nu,nv⟩
 refine Y.el rfl (bD rfl mQ rfl rfl) ?_
 rintro _ _ ⟨g82,rfl,rfl⟩
 refine Y.es (aE rfl) rfl (esW rfl (.t .z) (.t .g1) .z aX rfl rfl) ?_
 refine Y.nt (Y.seq (Y.region (Y.fa rfl (.s16 (.s16 (.s16 .g11))) aP (Y.ld rfl bO .z .g4 (Y.mv rfl (.s16 .g5) ?_)))))
 obtain⟨c2,be⟩:=aJ (xs:=f.inodes) (j:=Int.toNat ((aQ f q).1)) (by first | omega |(simp <;> omega))
 obtain⟨nw,d5,bf,bg⟩:=au.elem be
 obtain⟨gs,gt,rfl,c3,bh⟩:=bV d5
 obtain⟨gu,gv,rfl,fz,f0,f1,f2⟩:=aD c3
 obtain⟨gw,gx,rfl,f3,f4,f5,b1⟩:=aD bh
 have q6:=cZ (i:=((aQ f q).1)) be (by omega)
 have b2:=dD (a:=((aQ f q).1)) be (by omega)
 have q7:=dZ (a:=((aQ f q).1)) be (by omega)
 have d6:=ht.get be
 refine Y.ql rfl (aB (j:=Int.toNat ((aQ f q).1)) rfl cI aU (.t .g1) (.t .z) (by omega) (by first | omega |(simp <;> omega))) ?_
 refine Y.fa rfl .z bM (Y.le rfl eA .z bf bg (Y.mv rfl (.s16 .g8) ?_))
 refine Y.cl rfl rfl Tryz.func127 rfl rfl (aR (.t .g1) (.t .z)) .n (fun _ _ hs tr=>sD (tr.ctx bh) _ (by first | assumption | omega |(dsimp only;omega))) ?_
 rintro _ _ ⟨rfl,rfl⟩
 refine Y.r .n ?_
 refine Y.as rfl .z (Y.nt ?_)
 refine Y.az (γ:=(Option Addr)×Nat×(Option Addr)×Nat×DFs) (fun⟨aj,ah,ak,al,F⟩=> [(14,.pointer (some ⟨g82,0,none⟩)),(13,.string ((aQ f q).2.1)),(12,.int .i64 ((aQ f q).1)),(11,.int .i64 ag.ino),(8,.string ((aQ f p).2.1)),(7,.int .i64 ((aQ f p).1)),(6,.pointer (some ⟨g4,0,none⟩))]) (fun⟨aj,ah,ak,al,F⟩=> [bZ g82 27 2 1 [.slice aj F.inodes.length ah,.slice ak F.data.length al],aG aW F.inodes [.slice aj F.inodes.length ah],aG cV F.data [.slice ak F.data.length al],bZ g4 155 7 1 [.int .i64 0,.int .i64 0,.int .i64 0,.slice none 0 0,.slice none 0 0,.slice none 0 0,.slice none 0 0],bZ g3 27 2 1 [.slice (some ds) f.inodes.length bu,.slice bv f.data.length bw]]) (fun⟨aj,ah,ak,al,F⟩=>Jf F∧F.inodes.length=f.inodes.length∧0≤fC (dG ((aQ f p).2.1)) (aH F.inodes ((aQ f p).1))∧((aH F.inodes ((aQ f q).1)).length≤5∨(((aQ f q).1)=((aQ f p).1)∧(aH F.inodes ((aQ f q).1)).length≤6))) ?_ ?_
 refine Y.seq (Y.region (Y.mv rfl .z (Y.ql rfl (nE rfl (.t .z) .c) (Y.nt ?_))))
 refine Y.u (.t .z) (fun q8=> ?_) (fun q8=> ?_)
 have nx:=gM (dG ((aQ f q).2.1)) c2.ents
 refine Y.seq (Y.region (Y.ql rfl (aL rfl (.t (.s16 (.s16 (.s16 (.s16 .g6))))) (fun _=>aP _ _)) (Y.ld rfl bO .z .g4 (Y.mv rfl (.s16 .g16) ?_))))
 refine Y.ql rfl (aB (j:=Int.toNat ((aQ f q).1)) rfl cI aU (.t .g1) (.t .z) (by omega) (by first | omega |(simp <;> omega))) ?_
 refine Y.fa rfl .z bM (Y.le rfl eA .z bf bg (Y.mv rfl .g8 ?_))
 obtain⟨q9,c4,c5⟩:=b1 (by omega)
 subst c4
 obtain⟨ra,b3⟩:=aJ (xs:=c2.ents) (j:=Int.toNat (fC (dG ((aQ f q).2.1)) c2.ents)) (by first | omega |(simp <;> omega))
 obtain⟨ny,d7,d8,d9⟩:=c5.elem b3
 obtain⟨rfl,gy⟩:=fF d7
 have nz:=qL d6 _ _ b3
 refine Y.ql rfl (aB (j:=Int.toNat (fC (dG ((aQ f q).2.1)) c2.ents)) rfl dQ fS (.t .g1) (.t .z) (by omega) (by first | omega |(simp <;> omega))) ?_
 refine Y.fa rfl .z iU (Y.le rfl bR .z d8 d9 (Y.as rfl .z (Y.nt (Y.seq (Y.seq (Y.region (Y.mv rfl .z ?_)))))))
 refine Y.mv rfl (.s16 (.s16 (.s16 .g1))) (Y.ql rfl (bP rfl (.t .g1) (.t .z)) (Y.nt ?_))
 refine Y.u (.t .z) (fun rb=> ?_) (fun rb=> ?_)
 refine Y.seq (Y.region (Y.ql rfl (qW rfl bN (.t (.s16 (.s16 (.s16 (.s16 (.s16 .g4)))))) .g4 aX) ?_))
 refine Y.cl rfl rfl Tryz.func172 rfl rfl (aR (.t .z) .c) .n (fun _ _ hs tr=>gX (aM f (tr.ctx ac) (tr.ctx ad)) _) ?_
 rintro _ _ ⟨tb,tc,td,te,rfl,rfl⟩
 refine Y.r (.c (.c (.c (.c .n)))) ?_
 refine Y.i (WS.a .z) ?_
 rintro⟨n0,n1,rfl,gz,g0,ha⟩
 refine Y.i (WS.a .g1) ?_
 rintro⟨n2,n3,rfl,hb,hc,hd⟩
 refine Y.i (WS.a .g2) ?_
 rintro⟨n4,n5,rfl,he,hf,hg⟩
 refine Y.i (WS.a .g3) ?_
 rintro⟨n6,n7,rfl,hh,hi,hk⟩
 refine Y.es (aE rfl) rfl (esW rfl (.t (.s16 (.s16 (.s16 (.s16 (.s16 .g5)))))) (.t .z) .g7 bA rfl rfl) ?_
 refine Y.nt (Y.ret (Y.m (Y.m ?_)))
 refine Y.j (dA rfl (.s16 (.s16 (.s16 (.s16 (.s16 .g5))))) dO .z bA) (.c .g1 (.c .g1 (.c .g1 (.c .g1 .n)))) ?_
 exact⟨(⟨0,0,0,[],[],(⟨f.inodes,f.data⟩:DFs)⟩:eB),(by first | exact hj | assumption),_,_,_,_,rfl,rfl⟩
 refine Y.skip (Y.g (Y.seq (Y.seq (Y.region (Y.mv rfl (.s16 (.s16 (.s16 .g3))) (Y.mv rfl .g4 ?_))))))
 refine Y.cl rfl rfl Tryz.func177 rfl rfl (eQ (.t (.s16 (.s16 (.s16 (.s16 (.s16 .g6)))))) (.t .g1) (.t .z)) .n (fun _ _ hs tr=>aIn (tr.ptr .g4 (aM f (tr.ctx ac) (tr.ctx ad))) _ _ (by first | assumption |(constructor <;> omega)) (by first | assumption |(constructor <;> omega))) ?_
 rintro _ _ ⟨ea,c6,rfl,rfl⟩
 refine Y.r .n ?_
 refine Y.as rfl .z (Y.nt (Y.seq (Y.region (Y.mv rfl .z (Y.ql rfl (cC rfl (.t .z) .c) (Y.nt ?_))))))
 refine Y.ad (.t .z) (fun hl=> ?_) (fun hl=> ?_)
 refine Y.seq (Y.region (Y.ql rfl (qW rfl bN (.t (.s16 (.s16 (.s16 (.s16 (.s16 .g10)))))) .g4 aX) (Y.mv rfl .g3 ?_)))
 refine Y.cl rfl rfl Tryz.func172 rfl rfl (aR (.t .g1) (.t .z)) .n (fun _ _ hs tr=>gX (aM f (tr.ctx ac) (tr.ctx ad)) _) ?_
 rintro _ _ ⟨rc,rd,re,rf,rfl,rfl⟩
 refine Y.r (.c (.c (.c (.c .n)))) ?_
 refine Y.i (WS.a .z) ?_
 rintro⟨n8,n9,rfl,hm,hn,ho⟩
 refine Y.i (WS.a .g1) ?_
 rintro⟨oa,ob,rfl,hp,hq,hr⟩
 refine Y.i (WS.a .g2) ?_
 rintro⟨oc,od,rfl,hu,hv,hw⟩
 refine Y.i (WS.a .g3) ?_
 rintro⟨oe,og,rfl,hx,hy,hz⟩
 refine Y.es (aE rfl) rfl (esW rfl (.t (.s16 (.s16 (.s16 (.s16 (.s16 .g12)))))) (.t .z) .g7 bA rfl rfl) ?_
 refine Y.nt (Y.ret (Y.m (Y.m ?_)))
 refine Y.j (dA rfl (.s16 (.s16 (.s16 (.s16 (.s16 .g12))))) dO .z bA) (.c .g1 (.c .g1 (.c .g1 (.c .g1 .n)))) ?_
 exact⟨(⟨0,ea,0,[],[],(⟨f.inodes,f.data⟩:DFs)⟩:eB),(by first | exact hj | assumption),_,_,_,_,rfl,rfl⟩
 refine Y.skip (Y.g (Y.region (Y.mv rfl (.s16 (.s16 (.s16 .g2))) (Y.mv rfl (.s16 .g7) ?_))))
 obtain⟨ao,c7,b4, -⟩:=mB (show¬fC (dG ((aQ f q).2.1)) c2.ents= -1 by omega)
 refine Y.eq .z (congrArg (Value.int .i64) c7) ?_
 have av:ao<(aH f.inodes ((aQ f q).1)).length:=by rw [b2];exact b4
 have hFl:(iZ f ((aQ f q).1) ao).inodes.length=f.inodes.length:=yN
 refine Y.cl rfl rfl Tryz.func175 rfl rfl (eQ (.t (.s16 (.s16 .g1))) (.t .g1) (.t .z)) (.c .z (.c .z (.c .z .n))) (fun _ _ hs tr=>aBs (f:=f) _ _ hs (by assumption) (by first | assumption |(constructor <;> omega)) (by first | omega | assumption)) ?_
 rintro _ _ ⟨rg,rh,rfl,rfl⟩
 refine Y.r (.c (.c (.c .n))) ?_
 refine Y.i (WS.a .g1) ?_
 rintro⟨eb,ec,rfl,h1,h2,h3⟩
 refine Y.i (WS.a .g2) ?_
 rintro⟨ed,ee,rfl,h4,h6,h7⟩
 refine Y.nil ?_
 have h6t:=kW ht ((aQ f q).1)
 obtain⟨i0,h8,h9, -⟩:=mB (show¬fC (dG ((aQ f p).2.1)) bx.ents= -1 by omega)
 have ia:fC (dG ((aQ f p).2.1)) (aH f.inodes ((aQ f p).1))=(i0:Int):=by rw [ai];exact h8
 have ib:eV (aH f.inodes ((aQ f p).1)) i0=ag.ino:=by rw [ai];exact nA (by first | exact ba |(rw [show i0=Int.toNat (fC (dG ((aQ f p).2.1)) bx.ents) by omega];exact ba))
 have ef:eV (aH f.inodes ((aQ f q).1)) ao=ra.ino:=by rw [b2];exact nA (by first | exact b3 |(rw [show ao=Int.toNat (fC (dG ((aQ f q).2.1)) c2.ents) by omega];exact b3))
 have hst:=yG hj (by assumption) (by assumption) ia av (by rw [ef,ib];first | assumption | omega) (by rw [ef];first | assumption | exact c6 (by omega))
 have hsh:=sV (f:=f) (a:=((aQ f q).1)) (i:=ao) (by omega) av
 exact Y.ar (eb,ec,ed,ee,(iZ f ((aQ f q).1) ao)) ⟨by first | exact hj | exact jA hj _ _,by first | rfl | assumption,hst,by first | omega |(left;omega) |(right;omega)⟩ (.c (.s16 (.s16 .g2)) (.c (.s16 (.s16 (.s16 .g4))) (.c (.s16 (.s16 (.s16 .g5))) (.c (.s16 (.s16 (.s16 .g12))) (.c (.s16 (.s16 (.s16 (.s16 (.s16 .g4))))) (.c (.s16 (.s16 (.s16 (.s16 (.s16 .g5))))) (.c (.s16 (.s16 (.s16 (.s16 (.s16 .g12))))) .n))))))) (fun _ h=>h.sel (.c .z (.c .z (.c .z (.c .z (.c .z .n))))))
 have ic:=gM (dG ((aQ f q).2.1)) c2.ents
 refine Y.seq (Y.region (Y.mv rfl (.s16 .g14) (Y.mv rfl (.s16 (.s16 (.s16 .g15))) (Y.ql rfl (cC rfl (.t .g1) (.t .z)) (Y.mv rfl .z ?_)))))
 refine Y.ao .z (fun g127=> ?_) (fun g127=> ?_)
 refine Y.qg rfl rfl .z rfl rfl rfl (aL rfl (.t (.s16 (.s16 (.s16 (.s16 .g10))))) (fun _=>aP _ _)) ?_
 refine Y.qg rfl rfl .g1 rfl rfl rfl (aN rfl bO (.t .z) (WS.g .g4 rfl)) ?_
 refine Y.qg rfl rfl .g2 rfl rfl rfl (aS rfl (.t (.s16 (.s16 .g4)))) ?_
 refine Y.qg rfl rfl .g3 rfl rfl rfl (aB (j:=Int.toNat ((aQ f q).1)) rfl cI aU (.t .g1) (.t .z) (by omega) (by first | omega |(simp <;> omega))) ?_
 refine Y.qg rfl rfl .g4 rfl rfl rfl (aL rfl (.t .z) (fun _=>bM _ _)) ?_
 refine Y.qg rfl rfl .g5 rfl rfl rfl (aN rfl eA (.t .z) (WS.el bf bg rfl)) ?_
 refine Y.qg rfl rfl .g6 rfl rfl rfl (bE rfl dQ (.t .z)) ?_
 refine Y.qg rfl rfl .g7 rfl rfl rfl (nE rfl (.t .z) .c) ?_
 refine Y.ql rfl (bB rfl (.t .g8) (.t .z)) (Y.nt ?_)
 refine Y.u (.t .z) (fun id=> ?_) (fun id=> ?_)
 refine Y.seq (Y.region (Y.ql rfl (qW rfl bN (.t (.s16 (.s16 (.s16 (.s16 (.s16 .g3)))))) .g4 aX) ?_))
 refine Y.cl rfl rfl Tryz.func172 rfl rfl (aR (.t .z) .c) .n (fun _ _ hs tr=>gX (aM f (tr.ctx ac) (tr.ctx ad)) _) ?_
 rintro _ _ ⟨ri,rj,rk,rl,rfl,rfl⟩
 refine Y.r (.c (.c (.c (.c .n)))) ?_
 refine Y.i (WS.a .z) ?_
 rintro⟨oh,oi,rfl,ie,ig,ih⟩
 refine Y.i (WS.a .g1) ?_
 rintro⟨oj,ol,rfl,ii,ij,ik⟩
 refine Y.i (WS.a .g2) ?_
 rintro⟨om,on,rfl,il,im,io⟩
 refine Y.i (WS.a .g3) ?_
 rintro⟨oo,op,rfl,ip,iq,ir⟩
 refine Y.es (aE rfl) rfl (esW rfl (.t (.s16 (.s16 (.s16 (.s16 (.s16 .g4)))))) (.t .z) .g7 bA rfl rfl) ?_
 refine Y.nt (Y.ret (Y.m ?_))
 refine Y.j (dA rfl (.s16 (.s16 (.s16 (.s16 (.s16 .g4))))) dO .z bA) (.c .g1 (.c .g1 (.c .g1 (.c .g1 .n)))) ?_
 exact⟨(⟨0,2,0,[],[],(⟨f.inodes,f.data⟩:DFs)⟩:eB),(by first | exact hj | assumption),_,_,_,_,rfl,rfl⟩
 refine Y.skip ?_
 have h6t:=kW ht ((aQ f q).1)
 have hst:0≤fC (dG ((aQ f p).2.1)) (aH f.inodes ((aQ f p).1)):=by rw [ai];omega
 have it:=congrArg List.length ai;have iu:=congrArg List.length b0;have iv:=congrArg List.length b2
 exact Y.ar (d1,d2,d3,d4,f) ⟨by first | exact hj | exact jA hj _ _,by first | rfl | assumption,hst,by first | omega |(left;omega) |(right;omega)⟩ (.c (.s16 .g8) (.c (.s16 (.s16 .g10)) (.c (.s16 (.s16 .g11)) (.c (.s16 (.s16 (.s16 .g2))) (.c (.s16 (.s16 (.s16 (.s16 .g10)))) (.c (.s16 (.s16 (.s16 (.s16 .g11)))) (.c (.s16 (.s16 (.s16 (.s16 (.s16 .g2))))) .n))))))) (fun _ h=>h.sel (.c .z (.c .z (.c .z (.c .z (.c .z .n))))))
 refine Y.h rfl rfl .z rfl rfl (by decide) rfl ?_
 refine Y.h rfl rfl .g1 rfl rfl (by decide) rfl ?_
 refine Y.h rfl rfl .g2 rfl rfl (by decide) rfl ?_
 refine Y.h rfl rfl .g3 rfl rfl (by decide) rfl ?_
 refine Y.h rfl rfl .g4 rfl rfl (by decide) rfl ?_
 refine Y.h rfl rfl .g5 rfl rfl (by decide) rfl ?_
 refine Y.h rfl rfl .g6 rfl rfl (by decide) rfl ?_
 refine Y.h rfl rfl .g7 rfl rfl (by decide) rfl ?_
 refine Y.ql rfl (aV rfl (.t .g8) .c) (Y.nt ?_)
 refine Y.an (.t .z) ?_
 refine Y.skip ?_
 have h6t:=kW ht ((aQ f q).1)
 have hst:0≤fC (dG ((aQ f p).2.1)) (aH f.inodes ((aQ f p).1)):=by rw [ai];omega
 have it:=congrArg List.length ai;have iu:=congrArg List.length b0;have iv:=congrArg List.length b2
 exact Y.ar (d1,d2,d3,d4,f) ⟨by first | exact hj | exact jA hj _ _,by first | rfl | assumption,hst,by first | omega |(left;omega) |(right;omega)⟩ (.c (.s16 .g8) (.c (.s16 (.s16 .g10)) (.c (.s16 (.s16 .g11)) (.c (.s16 (.s16 (.s16 .g2))) (.c (.s16 (.s16 (.s16 (.s16 .g10)))) (.c (.s16 (.s16 (.s16 (.s16 .g11)))) (.c (.s16 (.s16 (.s16 (.s16 (.s16 .g2))))) .n))))))) (fun _ h=>h.sel (.c .z (.c .z (.c .z (.c .z (.c .z .n))))))
 rintro⟨aj,ah,ak,al,F⟩ ⟨hJF,hFl,hst,iw⟩
 refine Y.seq (Y.region (Y.mv rfl .g5 (Y.fa rfl .g1 aP (Y.ld rfl bO .z .z (Y.mv rfl .g8 ?_)))))
 refine Y.ab (.c .g1 .n) fN ?_
 rintro eg a3
 obtain⟨aw,ap⟩:=aJ (xs:=F.inodes) (j:=Int.toNat ((aQ f p).1)) (by first | omega |(simp <;> omega))
 obtain⟨rm,bi⟩:=aJ (xs:=eg) (j:=Int.toNat ((aQ f p).1)) (by rw [a3];exact(List.getElem?_eq_some_iff.1 ap).1)
 refine Y.aq .g1 (eD ap bi) ?_
 refine Y.ab (.c .z .n) eZ ?_
 rintro⟨rn,rp⟩ rfl
 refine Y.i (WS.a .z) ?_
 rintro⟨eh,ei,rfl,ix,iy,iz⟩
 refine Y.i (WS.a .g1) ?_
 rintro⟨ej,ek,rfl,i1,i2,i3⟩
 have oq:=cZ (i:=((aQ f p).1)) ap (by omega)
 have ce:=dD (a:=((aQ f p).1)) ap (by omega)
 have ot:=dZ (a:=((aQ f p).1)) ap (by omega)
 refine Y.i (WS.h .g4 (by first | omega |(simp <;> omega) |(simp only [List.length_append,List.length_cons,List.length_nil,List.length_set] at *;omega))) ?_
 rintro⟨em,rfl⟩
 refine Y.ql rfl (aB (j:=Int.toNat ((aQ f p).1)) rfl cI aU (.t .g1) (.t .z) (by omega) (by first | omega |(simp <;> omega))) ?_
 refine Y.fa rfl .z bM (Y.ql rfl (aN rfl eA (.t .z) (WS.j .g4 bi rfl)) (Y.mv rfl .g11 ?_))
 refine Y.cl rfl rfl Tryz.func127 rfl rfl (aR (.t .g1) (.t .z)) .n (fun _ _ hs tr=>sD (tr.own .g1) _ (by first | assumption | omega |(dsimp only;omega))) ?_
 rintro _ _ ⟨rfl,rfl⟩
 refine Y.r .n ?_
 refine Y.ac (c:=aG cA aw [.int .i64 aw.kind,.int .i64 aw.links,.int .i64 aw.size,.slice eh aw.blocks.length ei,.slice ej aw.ents.length ek]) (.c .z (.c .z .n)) (fun w S h=>cP aw h) ?_
 refine Y.ac (c:=aG aW F.inodes [.slice (some em) F.inodes.length ah]) (.c .g3 (.c .z (.c .z (.c .z .n)))) (eH (K:=cA) a3 ap bi) ?_
 rw [ce] at hst
 obtain⟨ae,c8,b5, -⟩:=mB (show¬fC (dG ((aQ f p).2.1)) aw.ents= -1 by omega)
 refine Y.eq .z (congrArg (Value.int .i64) c8) ?_
 have bj:ae<(aH F.inodes ((aQ f p).1)).length:=by rw [ce];exact b5
 have hrl:=aDv (F:=F) (d:=((aQ f p).1)) (t:=((aQ f q).1)) (i:=ae) (by rw [hFl];assumption) (by rw [hFl];assumption) bj
 have hJG:Jf (dH F ((aQ f p).1) (List.eraseIdx (aH F.inodes ((aQ f p).1)) ae)):=vR hJF
 have hGl:(dH F ((aQ f p).1) (List.eraseIdx (aH F.inodes ((aQ f p).1)) ae)).inodes.length=f.inodes.length:=dF.trans hFl
 refine Y.cl rfl rfl Tryz.func178 rfl rfl (eQ (.t .g9) (.t .g8) (.t .z)) (.c .g1 (.c .z (.c .z .n))) (fun _ _ hs tr=>aHf (f:=F) _ _ hs (by first | assumption |(constructor <;> omega)) (by omega)) ?_
 rintro _ _ ⟨rq,rr,rfl,rfl⟩
 refine Y.r (.c (.c (.c .n))) ?_
 refine Y.i (WS.a .g1) ?_
 rintro⟨ou,cf,rfl,i4,i5,i6⟩
 refine Y.i (WS.a .g2) ?_
 rintro⟨en,eo,rfl,i7,i8,i9⟩
 refine Y.nt (Y.seq ?_)
 refine Y.ab (.c .g1 .n) fN ?_
 rintro cg a4
 obtain⟨aa,am⟩:=aJ (xs:=(dH F ((aQ f p).1) (List.eraseIdx (aH (F).inodes ((aQ f p).1)) ae)).inodes) (j:=Int.toNat ((aQ f q).1)) (by first | omega |(simp <;> omega))
 obtain⟨rs,bk⟩:=aJ (xs:=cg) (j:=Int.toNat ((aQ f q).1)) (by rw [a4];exact(List.getElem?_eq_some_iff.1 am).1)
 refine Y.aq .g1 (eD am bk) ?_
 refine Y.ab (.c .z .n) eZ ?_
 rintro⟨rt,ru⟩ rfl
 refine Y.i (WS.a .z) ?_
 rintro⟨ch,ci,rfl,ja,jb,jc⟩
 refine Y.i (WS.a .g1) ?_
 rintro⟨ov,ow,rfl,jd,je,jf⟩
 have ox:=cZ (i:=((aQ f q).1)) am (by omega)
 have ep:=dD (a:=((aQ f q).1)) am (by omega)
 have oy:=dZ (a:=((aQ f q).1)) am (by omega)
 have hyl:aa.ents.length≤5:=by have e8:=congrArg List.length ep;exact iw.elim (fun h5=>by first | omega |(simp only [dH] at *;omega)) (fun h5=>by have e9:=hrl.2 h5.1;first | omega |(simp only [dH] at *;omega))
 refine Y.sel (.c .z (.c .z (.c .g4 (.c .z (.c .z (.c .z (.c .z (.c .z (.c .z .n))))))))) ?_
 refine Y.dr .g3 15 gB ?_
 refine Y.sc (qs 0 12++ [(12,false),(13,false),(14,true),(15,false)]) (by kernel_rfl) ?_
 refine Y.df rfl rfl .g3 .g10 aP (Y.dl rfl rfl .g3 bO .z .g3 (Y.dm rfl rfl .g3 .g14 (Y.df rfl rfl .g3 .g13 aP (Y.dl rfl rfl .g3 bO .z .g3 (Y.dm rfl rfl .g3 (.s16 .g1) ?_)))))
 refine Y.i (WS.h .g5 (by first | omega |(simp <;> omega) |(simp only [List.length_append,List.length_cons,List.length_nil,List.length_set] at *;omega))) ?_
 rintro⟨cj,rfl⟩
 refine Y.dk rfl rfl .g3 (aB (j:=Int.toNat ((aQ f q).1)) rfl cI aU (.t .g1) (.t .z) (by omega) (by first | omega |(simp <;> omega))) ?_
 refine Y.df rfl rfl .g3 .z bM (Y.dk rfl rfl .g3 (aN rfl eA (.t .z) (WS.j .g2 bk rfl)) (Y.dm rfl rfl .g3 (.s16 .g4) (Y.dm rfl rfl .g3 (.s16 .g7) (Y.dk rfl rfl .g3 (aZ (cs:= [.string ((aQ f q).2.1),.int .i64 ag.ino]) rfl tC (pv2 (.t .g1) (.t .z)) rfl) ?_))))
 refine Y.call (aC rfl rfl) rfl (by decide) rfl (bF rfl Tryz.func128 rfl rfl (aR (.t .g3) (.t .z))) .n (fun _ _ hs tr=>aD6 (tr.own .g1) (tO (⟨(aQ f q).2.1,ag.ino⟩:bT) (by first | assumption | omega |(dsimp only;omega))) (by omega)) ?_
 rintro _ _ rfl
 refine Y.r (.c .n) ?_
 refine Y.i (WS.a .z) ?_
 rintro⟨bm,bn,rfl,jg,jh,ji⟩
 refine Y.sk .g4 ?_
 refine Y.q (aC rfl rfl) rfl (by decide) rfl (aB (j:=Int.toNat ((aQ f q).1)) rfl cI aU (.t .g11) (.t .g10) (by omega) (by first | omega |(simp <;> omega))) ?_
 refine Y.sk .g4 ?_
 refine Y.df rfl rfl .g4 .z bM ?_
 refine Y.es (aC rfl rfl) rfl (jZ (j:=Int.toNat ((aQ f q).1)) (off:=4) (cs:= [.slice bm (gG aa.ents (⟨(aQ f q).2.1,ag.ino⟩:bT)).length bn]) rfl pX (.t .z) (iK _ _ _) (.t .g2) rfl (nJ rfl) .g6 bk (Nat.le_of_ble_eq_true rfl)) ?_
 refine Y.af (x':=List.set cg (Int.toNat ((aQ f q).1)) [.int .i64 aa.kind,.int .i64 aa.links,.int .i64 aa.size,.slice ch aa.blocks.length ci,.slice bm (gG aa.ents (⟨(aQ f q).2.1,ag.ino⟩:bT)).length bn]) .z rfl ?_
 refine Y.sl rfl ?_
 refine Y.aa ?_
 refine Y.ai (by kernel_rfl) ?_
 refine Y.g (Y.seq (Y.region (Y.ql rfl (qW rfl bN (.t (.s16 .g9)) .g7 aX) (Y.ql rfl (aZ (cs:= [.int .i64 0,.int .i64 0,.int .i64 0,.slice none 0 0,.slice none 0 0,.slice (some cj) ((dH F ((aQ f p).1) (List.eraseIdx (aH (F).inodes ((aQ f p).1)) ae)).inodes).length cf,.slice en ((dH F ((aQ f p).1) (List.eraseIdx (aH (F).inodes ((aQ f p).1)) ae)).data).length eo]) rfl mD (pv1 (.t .z)) rfl) ?_))))
 refine Y.es (aE rfl) rfl (esW rfl (.t (.s16 (.s16 .g1))) (.t .z) .g8 bA rfl rfl) ?_
 refine Y.nt (Y.ret ?_)
 refine Y.ac (c:=aG cA (⟨aa.kind,aa.links,aa.size,aa.blocks,gG aa.ents (⟨(aQ f q).2.1,ag.ino⟩:bT)⟩:aF) [.int .i64 aa.kind,.int .i64 aa.links,.int .i64 aa.size,.slice ch aa.blocks.length ci,.slice bm (gG aa.ents (⟨(aQ f q).2.1,ag.ino⟩:bT)).length bn]) (.c .g3 (.c .g2 .n)) (fun w S h=>cP (⟨aa.kind,aa.links,aa.size,aa.blocks,gG aa.ents (⟨(aQ f q).2.1,ag.ino⟩:bT)⟩:aF) h) ?_
 refine Y.ac (c:=aG aW (List.set ((dH F ((aQ f p).1) (List.eraseIdx (aH (F).inodes ((aQ f p).1)) ae)).inodes) (Int.toNat ((aQ f q).1)) (⟨aa.kind,aa.links,aa.size,aa.blocks,gG aa.ents (⟨(aQ f q).2.1,ag.ino⟩:bT)⟩:aF)) [.slice (some cj) ((dH F ((aQ f p).1) (List.eraseIdx (aH (F).inodes ((aQ f p).1)) ae)).inodes).length cf]) (.c .g2 (.c .z (.c .g3 (.c .g3 .n)))) (eU (K:=cA) a4 (List.getElem?_eq_some_iff.1 am).1 rfl) ?_
 refine Y.add (c:=aG bX [] [.slice none 0 0]) (fun w S=>aK w S none) ?_
 refine Y.add (c:=aG fJ [] [.slice none 0 0]) (fun w S=>aK w S none) ?_
 refine Y.j (dA rfl (.s16 (.s16 .g1)) dO .g3 bA) (.c .g1 (.c .z (.c .z (.c .g2 .n)))) ?_
 exact⟨(⟨0,0,0,[],[],(⟨List.set ((dH F ((aQ f p).1) (List.eraseIdx (aH (F).inodes ((aQ f p).1)) ae)).inodes) (Int.toNat ((aQ f q).1)) (⟨aa.kind,aa.links,aa.size,aa.blocks,gG aa.ents (⟨(aQ f q).2.1,ag.ino⟩:bT)⟩:aF),(dH F ((aQ f p).1) (List.eraseIdx (aH (F).inodes ((aQ f p).1)) ae)).data⟩:DFs)⟩:eB),(by first | exact hj | assumption | exact aGg hJG am hyl (by rw [hGl];constructor <;>(dsimp only;omega)) (by dsimp only;omega)),_,_,_,_,rfl,rfl⟩
 refine Y.h rfl rfl .z rfl rfl (by decide) rfl ?_
 refine Y.h rfl rfl .g1 rfl rfl (by decide) rfl ?_
 refine Y.h rfl rfl .g2 rfl rfl (by decide) rfl ?_
 refine Y.ql rfl (aV rfl (.t .g3) .c) (Y.nt ?_)
 refine Y.an (.t .z) ?_
 refine Y.skip (Y.g (Y.seq (Y.region (Y.ql rfl (qW rfl bN (.t (.s16 (.s16 (.s16 .g8)))) .g1 aX) ?_))))
 refine Y.cl rfl rfl Tryz.func67 rfl rfl (bH (.t .z)) .n (fun _ _ hs tr=>uY (aM f (tr.ctx ac) (tr.ctx ad))) ?_
 rintro _ _ ⟨rv,rx,rfl,rfl⟩
 refine Y.r (.c (.c .n)) ?_
 refine Y.i (WS.a .z) ?_
 rintro⟨ck,cm,rfl,jj,jk,jl⟩
 refine Y.i (WS.a .g1) ?_
 rintro⟨cn,co,rfl,jm,jn,jo⟩
 refine Y.el rfl (bD rfl mQ rfl rfl) ?_
 rintro _ _ ⟨g183,rfl,rfl⟩
 refine Y.es (aE rfl) rfl (esW rfl (.t .z) (.t .g1) .z aX rfl rfl) ?_
 refine Y.nt (Y.seq (Y.region (Y.fa rfl (.s16 (.s16 (.s16 .g11))) aP (Y.ld rfl bO .z .g4 (Y.mv rfl (.s16 .g5) ?_)))))
 obtain⟨a0,ax⟩:=aJ (xs:=f.inodes) (j:=Int.toNat ((aQ f q).1)) (by first | omega |(simp <;> omega))
 obtain⟨jp,c9,a1,a2⟩:=au.elem ax
 obtain⟨f6,f7,rfl,b6,a5⟩:=bV c9
 obtain⟨f8,f9,rfl,et,eu,ev,ew⟩:=aD b6
 obtain⟨ga,gb,rfl,ey,ez,e0,bo⟩:=aD a5
 have oz:=cZ (i:=((aQ f q).1)) ax (by omega)
 have a6:=dD (a:=((aQ f q).1)) ax (by omega)
 have o0:=dZ (a:=((aQ f q).1)) ax (by omega)
 have da:=ht.get ax
 refine Y.ql rfl (aB (j:=Int.toNat ((aQ f q).1)) rfl cI aU (.t .g1) (.t .z) (by omega) (by first | omega |(simp <;> omega))) ?_
 refine Y.fa rfl .z bM (Y.le rfl eA .z a1 a2 (Y.mv rfl (.s16 .g8) ?_))
 refine Y.cl rfl rfl Tryz.func127 rfl rfl (aR (.t .g1) (.t .z)) .n (fun _ _ hs tr=>sD (tr.ctx a5) _ (by first | assumption | omega |(dsimp only;omega))) ?_
 rintro _ _ ⟨rfl,rfl⟩
 refine Y.r .n ?_
 refine Y.as rfl .z (Y.nt ?_)
 refine Y.az (γ:=(Option Addr)×Nat×(Option Addr)×Nat×DFs) (fun⟨aj,ah,ak,al,F⟩=> [(14,.pointer (some ⟨g183,0,none⟩)),(13,.string ((aQ f q).2.1)),(12,.int .i64 ((aQ f q).1)),(11,.int .i64 ag.ino),(8,.string ((aQ f p).2.1)),(7,.int .i64 ((aQ f p).1)),(6,.pointer (some ⟨g4,0,none⟩))]) (fun⟨aj,ah,ak,al,F⟩=> [bZ g183 27 2 1 [.slice aj F.inodes.length ah,.slice ak F.data.length al],aG aW F.inodes [.slice aj F.inodes.length ah],aG cV F.data [.slice ak F.data.length al],bZ g4 155 7 1 [.int .i64 0,.int .i64 0,.int .i64 0,.slice none 0 0,.slice none 0 0,.slice none 0 0,.slice none 0 0],bZ g3 27 2 1 [.slice (some ds) f.inodes.length bu,.slice bv f.data.length bw]]) (fun⟨aj,ah,ak,al,F⟩=>Jf F∧F.inodes.length=f.inodes.length∧0≤fC (dG ((aQ f p).2.1)) (aH F.inodes ((aQ f p).1))∧((aH F.inodes ((aQ f q).1)).length≤5∨(((aQ f q).1)=((aQ f p).1)∧(aH F.inodes ((aQ f q).1)).length≤6))) ?_ ?_
 refine Y.seq (Y.region (Y.mv rfl .z (Y.ql rfl (nE rfl (.t .z) .c) (Y.nt ?_))))
 refine Y.u (.t .z) (fun jq=> ?_) (fun jq=> ?_)
 have jr:=gM (dG ((aQ f q).2.1)) a0.ents
 refine Y.seq (Y.region (Y.ql rfl (aL rfl (.t (.s16 (.s16 (.s16 (.s16 .g6))))) (fun _=>aP _ _)) (Y.ld rfl bO .z .g4 (Y.mv rfl (.s16 .g16) ?_))))
 refine Y.ql rfl (aB (j:=Int.toNat ((aQ f q).1)) rfl cI aU (.t .g1) (.t .z) (by omega) (by first | omega |(simp <;> omega))) ?_
 refine Y.fa rfl .z bM (Y.le rfl eA .z a1 a2 (Y.mv rfl .g8 ?_))
 obtain⟨o1,b8,b9⟩:=bo (by omega)
 subst b8
 obtain⟨js,a7⟩:=aJ (xs:=a0.ents) (j:=Int.toNat (fC (dG ((aQ f q).2.1)) a0.ents)) (by first | omega |(simp <;> omega))
 obtain⟨jt,db,dc,dd⟩:=b9.elem a7
 obtain⟨rfl,gc⟩:=fF db
 have ju:=qL da _ _ a7
 refine Y.ql rfl (aB (j:=Int.toNat (fC (dG ((aQ f q).2.1)) a0.ents)) rfl dQ fS (.t .g1) (.t .z) (by omega) (by first | omega |(simp <;> omega))) ?_
 refine Y.fa rfl .z iU (Y.le rfl bR .z dc dd (Y.as rfl .z (Y.nt (Y.seq (Y.seq (Y.region (Y.mv rfl .z ?_)))))))
 refine Y.mv rfl (.s16 (.s16 (.s16 .g1))) (Y.ql rfl (bP rfl (.t .g1) (.t .z)) (Y.nt ?_))
 refine Y.u (.t .z) (fun jv=> ?_) (fun jv=> ?_)
 refine Y.seq (Y.region (Y.ql rfl (qW rfl bN (.t (.s16 (.s16 (.s16 (.s16 (.s16 .g4)))))) .g4 aX) ?_))
 refine Y.cl rfl rfl Tryz.func172 rfl rfl (aR (.t .z) .c) .n (fun _ _ hs tr=>gX (aM f (tr.ctx ac) (tr.ctx ad)) _) ?_
 rintro _ _ ⟨ry,rz,r0,r1,rfl,rfl⟩
 refine Y.r (.c (.c (.c (.c .n)))) ?_
 refine Y.i (WS.a .z) ?_
 rintro⟨o2,o3,rfl,jw,jx,jy⟩
 refine Y.i (WS.a .g1) ?_
 rintro⟨o4,o5,rfl,jz,j0,j1⟩
 refine Y.i (WS.a .g2) ?_
 rintro⟨o6,o7,rfl,j2,j3,j4⟩
 refine Y.i (WS.a .g3) ?_
 rintro⟨o8,o9,rfl,j5,j6,j7⟩
 refine Y.es (aE rfl) rfl (esW rfl (.t (.s16 (.s16 (.s16 (.s16 (.s16 .g5)))))) (.t .z) .g7 bA rfl rfl) ?_
 refine Y.nt (Y.ret (Y.m (Y.m ?_)))
 refine Y.j (dA rfl (.s16 (.s16 (.s16 (.s16 (.s16 .g5))))) dO .z bA) (.c .g1 (.c .g1 (.c .g1 (.c .g1 .n)))) ?_
 exact⟨(⟨0,0,0,[],[],(⟨f.inodes,f.data⟩:DFs)⟩:eB),(by first | exact hj | assumption),_,_,_,_,rfl,rfl⟩
 refine Y.skip (Y.g (Y.seq (Y.seq (Y.region (Y.mv rfl (.s16 (.s16 (.s16 .g3))) (Y.mv rfl .g4 ?_))))))
 refine Y.cl rfl rfl Tryz.func177 rfl rfl (eQ (.t (.s16 (.s16 (.s16 (.s16 (.s16 .g6)))))) (.t .g1) (.t .z)) .n (fun _ _ hs tr=>aIn (tr.ptr .g4 (aM f (tr.ctx ac) (tr.ctx ad))) _ _ (by first | assumption |(constructor <;> omega)) (by first | assumption |(constructor <;> omega))) ?_
 rintro _ _ ⟨e1,dg,rfl,rfl⟩
 refine Y.r .n ?_
 refine Y.as rfl .z (Y.nt (Y.seq (Y.region (Y.mv rfl .z (Y.ql rfl (cC rfl (.t .z) .c) (Y.nt ?_))))))
 refine Y.ad (.t .z) (fun j8=> ?_) (fun j8=> ?_)
 refine Y.seq (Y.region (Y.ql rfl (qW rfl bN (.t (.s16 (.s16 (.s16 (.s16 (.s16 .g10)))))) .g4 aX) (Y.mv rfl .g3 ?_)))
 refine Y.cl rfl rfl Tryz.func172 rfl rfl (aR (.t .g1) (.t .z)) .n (fun _ _ hs tr=>gX (aM f (tr.ctx ac) (tr.ctx ad)) _) ?_
 rintro _ _ ⟨r2,r3,r4,r5,rfl,rfl⟩
 refine Y.r (.c (.c (.c (.c .n)))) ?_
 refine Y.i (WS.a .z) ?_
 rintro⟨pa,pb,rfl,j9,ka,kb⟩
 refine Y.i (WS.a .g1) ?_
 rintro⟨pc,pd,rfl,kc,kd,ke⟩
 refine Y.i (WS.a .g2) ?_
 rintro⟨pe,pf,rfl,kf,kg,kh⟩
 refine Y.i (WS.a .g3) ?_
 rintro⟨pg,ph,rfl,ki,kj,kk⟩
 refine Y.es (aE rfl) rfl (esW rfl (.t (.s16 (.s16 (.s16 (.s16 (.s16 .g12)))))) (.t .z) .g7 bA rfl rfl) ?_
 refine Y.nt (Y.ret (Y.m (Y.m ?_)))
 refine Y.j (dA rfl (.s16 (.s16 (.s16 (.s16 (.s16 .g12))))) dO .z bA) (.c .g1 (.c .g1 (.c .g1 (.c .g1 .n)))) ?_
 exact⟨(⟨0,e1,0,[],[],(⟨f.inodes,f.data⟩:DFs)⟩:eB),(by first | exact hj | assumption),_,_,_,_,rfl,rfl⟩
 refine Y.skip (Y.g (Y.region (Y.mv rfl (.s16 (.s16 (.s16 .g2))) (Y.mv rfl (.s16 .g7) ?_))))
 obtain⟨aq,dh,ca, -⟩:=mB (show¬fC (dG ((aQ f q).2.1)) a0.ents= -1 by omega)
 refine Y.eq .z (congrArg (Value.int .i64) dh) ?_
 have ay:aq<(aH f.inodes ((aQ f q).1)).length:=by rw [a6];exact ca
 have hFl:(iZ f ((aQ f q).1) aq).inodes.length=f.inodes.length:=yN
 refine Y.cl rfl rfl Tryz.func175 rfl rfl (eQ (.t (.s16 (.s16 .g1))) (.t .g1) (.t .z)) (.c .z (.c .z (.c .z .n))) (fun _ _ hs tr=>aBs (f:=f) _ _ hs (by assumption) (by first | assumption |(constructor <;> omega)) (by first | omega | assumption)) ?_
 rintro _ _ ⟨r6,r7,rfl,rfl⟩
 refine Y.r (.c (.c (.c .n))) ?_
 refine Y.i (WS.a .g1) ?_
 rintro⟨e2,e3,rfl,kl,km,kn⟩
 refine Y.i (WS.a .g2) ?_
 rintro⟨e4,e5,rfl,ko,kp,kq⟩
 refine Y.nil ?_
 have h6t:=kW ht ((aQ f q).1)
 obtain⟨i0,h8,h9, -⟩:=mB (show¬fC (dG ((aQ f p).2.1)) bx.ents= -1 by omega)
 have ia:fC (dG ((aQ f p).2.1)) (aH f.inodes ((aQ f p).1))=(i0:Int):=by rw [ai];exact h8
 have ib:eV (aH f.inodes ((aQ f p).1)) i0=ag.ino:=by rw [ai];exact nA (by first | exact ba |(rw [show i0=Int.toNat (fC (dG ((aQ f p).2.1)) bx.ents) by omega];exact ba))
 have ef:eV (aH f.inodes ((aQ f q).1)) aq=js.ino:=by rw [a6];exact nA (by first | exact a7 |(rw [show aq=Int.toNat (fC (dG ((aQ f q).2.1)) a0.ents) by omega];exact a7))
 have hst:=yG hj (by assumption) (by assumption) ia ay (by rw [ef,ib];first | assumption | omega) (by rw [ef];first | assumption | exact dg (by omega))
 have hsh:=sV (f:=f) (a:=((aQ f q).1)) (i:=aq) (by omega) ay
 exact Y.ar (e2,e3,e4,e5,(iZ f ((aQ f q).1) aq)) ⟨by first | exact hj | exact jA hj _ _,by first | rfl | assumption,hst,by first | omega |(left;omega) |(right;omega)⟩ (.c (.s16 (.s16 .g2)) (.c (.s16 (.s16 (.s16 .g4))) (.c (.s16 (.s16 (.s16 .g5))) (.c (.s16 (.s16 (.s16 .g12))) (.c (.s16 (.s16 (.s16 (.s16 (.s16 .g4))))) (.c (.s16 (.s16 (.s16 (.s16 (.s16 .g5))))) (.c (.s16 (.s16 (.s16 (.s16 (.s16 .g12))))) .n))))))) (fun _ h=>h.sel (.c .z (.c .z (.c .z (.c .z (.c .z .n))))))
 have kr:=gM (dG ((aQ f q).2.1)) a0.ents
 refine Y.seq (Y.region (Y.mv rfl (.s16 .g14) (Y.mv rfl (.s16 (.s16 (.s16 .g15))) (Y.ql rfl (cC rfl (.t .g1) (.t .z)) (Y.mv rfl .z ?_)))))
 refine Y.ao .z (fun g228=> ?_) (fun g228=> ?_)
 refine Y.qg rfl rfl .z rfl rfl rfl (aL rfl (.t (.s16 (.s16 (.s16 (.s16 .g10))))) (fun _=>aP _ _)) ?_
 refine Y.qg rfl rfl .g1 rfl rfl rfl (aN rfl bO (.t .z) (WS.g .g4 rfl)) ?_
 refine Y.qg rfl rfl .g2 rfl rfl rfl (aS rfl (.t (.s16 (.s16 .g4)))) ?_
 refine Y.qg rfl rfl .g3 rfl rfl rfl (aB (j:=Int.toNat ((aQ f q).1)) rfl cI aU (.t .g1) (.t .z) (by omega) (by first | omega |(simp <;> omega))) ?_
 refine Y.qg rfl rfl .g4 rfl rfl rfl (aL rfl (.t .z) (fun _=>bM _ _)) ?_
 refine Y.qg rfl rfl .g5 rfl rfl rfl (aN rfl eA (.t .z) (WS.el a1 a2 rfl)) ?_
 refine Y.qg rfl rfl .g6 rfl rfl rfl (bE rfl dQ (.t .z)) ?_
 refine Y.qg rfl rfl .g7 rfl rfl rfl (nE rfl (.t .z) .c) ?_
 refine Y.ql rfl (bB rfl (.t .g8) (.t .z)) (Y.nt ?_)
 refine Y.u (.t .z) (fun ks=> ?_) (fun ks=> ?_)
 refine Y.seq (Y.region (Y.ql rfl (qW rfl bN (.t (.s16 (.s16 (.s16 (.s16 (.s16 .g3)))))) .g4 aX) ?_))
 refine Y.cl rfl rfl Tryz.func172 rfl rfl (aR (.t .z) .c) .n (fun _ _ hs tr=>gX (aM f (tr.ctx ac) (tr.ctx ad)) _) ?_
 rintro _ _ ⟨r8,r9,sa,sd,rfl,rfl⟩
 refine Y.r (.c (.c (.c (.c .n)))) ?_
 refine Y.i (WS.a .z) ?_
 rintro⟨pi,pj,rfl,kt,ku,kv⟩
 refine Y.i (WS.a .g1) ?_
 rintro⟨pk,pl,rfl,kw,kx,ky⟩
 refine Y.i (WS.a .g2) ?_
 rintro⟨pm,pn,rfl,kz,k0,k1⟩
 refine Y.i (WS.a .g3) ?_
 rintro⟨po,pp,rfl,k2,k3,k4⟩
 refine Y.es (aE rfl) rfl (esW rfl (.t (.s16 (.s16 (.s16 (.s16 (.s16 .g4)))))) (.t .z) .g7 bA rfl rfl) ?_
 refine Y.nt (Y.ret (Y.m ?_))
 refine Y.j (dA rfl (.s16 (.s16 (.s16 (.s16 (.s16 .g4))))) dO .z bA) (.c .g1 (.c .g1 (.c .g1 (.c .g1 .n)))) ?_
 exact⟨(⟨0,2,0,[],[],(⟨f.inodes,f.data⟩:DFs)⟩:eB),(by first | exact hj | assumption),_,_,_,_,rfl,rfl⟩
 refine Y.skip ?_
 have h6t:=kW ht ((aQ f q).1)
 have hst:0≤fC (dG ((aQ f p).2.1)) (aH f.inodes ((aQ f p).1)):=by rw [ai];omega
 have it:=congrArg List.length ai;have iu:=congrArg List.length b0;have iv:=congrArg List.length a6
 exact Y.ar (ck,cm,cn,co,f) ⟨by first | exact hj | exact jA hj _ _,by first | rfl | assumption,hst,by first | omega |(left;omega) |(right;omega)⟩ (.c (.s16 .g8) (.c (.s16 (.s16 .g10)) (.c (.s16 (.s16 .g11)) (.c (.s16 (.s16 (.s16 .g2))) (.c (.s16 (.s16 (.s16 (.s16 .g10)))) (.c (.s16 (.s16 (.s16 (.s16 .g11)))) (.c (.s16 (.s16 (.s16 (.s16 (.s16 .g2))))) .n))))))) (fun _ h=>h.sel (.c .z (.c .z (.c .z (.c .z (.c .z .n))))))
 refine Y.h rfl rfl .z rfl rfl (by decide) rfl ?_
 refine Y.h rfl rfl .g1 rfl rfl (by decide) rfl ?_
 refine Y.h rfl rfl .g2 rfl rfl (by decide) rfl ?_
 refine Y.h rfl rfl .g3 rfl rfl (by decide) rfl ?_
 refine Y.h rfl rfl .g4 rfl rfl (by decide) rfl ?_
 refine Y.h rfl rfl .g5 rfl rfl (by decide) rfl ?_
 refine Y.h rfl rfl .g6 rfl rfl (by decide) rfl ?_
 refine Y.h rfl rfl .g7 rfl rfl (by decide) rfl ?_
 refine Y.ql rfl (aV rfl (.t .g8) .c) (Y.nt ?_)
 refine Y.an (.t .z) ?_
 refine Y.skip ?_
 have h6t:=kW ht ((aQ f q).1)
 have hst:0≤fC (dG ((aQ f p).2.1)) (aH f.inodes ((aQ f p).1)):=by rw [ai];omega
 have it:=congrArg List.length ai;have iu:=congrArg List.length b0;have iv:=congrArg List.length a6
 exact Y.ar (ck,cm,cn,co,f) ⟨by first | exact hj | exact jA hj _ _,by first | rfl | assumption,hst,by first | omega |(left;omega) |(right;omega)⟩ (.c (.s16 .g8) (.c (.s16 (.s16 .g10)) (.c (.s16 (.s16 .g11)) (.c (.s16 (.s16 (.s16 .g2))) (.c (.s16 (.s16 (.s16 (.s16 .g10)))) (.c (.s16 (.s16 (.s16 (.s16 .g11)))) (.c (.s16 (.s16 (.s16 (.s16 (.s16 .g2))))) .n))))))) (fun _ h=>h.sel (.c .z (.c .z (.c .z (.c .z (.c .z .n))))))
 rintro⟨aj,ah,ak,al,F⟩ ⟨hJF,hFl,hst,iw⟩
 refine Y.seq (Y.region (Y.mv rfl .g5 (Y.fa rfl .g1 aP (Y.ld rfl bO .z .z (Y.mv rfl .g8 ?_)))))
 refine Y.ab (.c .g1 .n) fN ?_
 rintro e7 a8
 obtain⟨az,ar⟩:=aJ (xs:=F.inodes) (j:=Int.toNat ((aQ f p).1)) (by first | omega |(simp <;> omega))
 obtain⟨se,bp⟩:=aJ (xs:=e7) (j:=Int.toNat ((aQ f p).1)) (by rw [a8];exact(List.getElem?_eq_some_iff.1 ar).1)
 refine Y.aq .g1 (eD ar bp) ?_
 refine Y.ab (.c .z .n) eZ ?_
 rintro⟨sf,sg⟩ rfl
 refine Y.i (WS.a .z) ?_
 rintro⟨fb,fc,rfl,k5,k6,k7⟩
 refine Y.i (WS.a .g1) ?_
 rintro⟨fd,fe,rfl,k8,k9,la⟩
 have pq:=cZ (i:=((aQ f p).1)) ar (by omega)
 have cp:=dD (a:=((aQ f p).1)) ar (by omega)
 have pr:=dZ (a:=((aQ f p).1)) ar (by omega)
 refine Y.i (WS.h .g4 (by first | omega |(simp <;> omega) |(simp only [List.length_append,List.length_cons,List.length_nil,List.length_set] at *;omega))) ?_
 rintro⟨ff,rfl⟩
 refine Y.ql rfl (aB (j:=Int.toNat ((aQ f p).1)) rfl cI aU (.t .g1) (.t .z) (by omega) (by first | omega |(simp <;> omega))) ?_
 refine Y.fa rfl .z bM (Y.ql rfl (aN rfl eA (.t .z) (WS.j .g4 bp rfl)) (Y.mv rfl .g11 ?_))
 refine Y.cl rfl rfl Tryz.func127 rfl rfl (aR (.t .g1) (.t .z)) .n (fun _ _ hs tr=>sD (tr.own .g1) _ (by first | assumption | omega |(dsimp only;omega))) ?_
 rintro _ _ ⟨rfl,rfl⟩
 refine Y.r .n ?_
 refine Y.ac (c:=aG cA az [.int .i64 az.kind,.int .i64 az.links,.int .i64 az.size,.slice fb az.blocks.length fc,.slice fd az.ents.length fe]) (.c .z (.c .z .n)) (fun w S h=>cP az h) ?_
 refine Y.ac (c:=aG aW F.inodes [.slice (some ff) F.inodes.length ah]) (.c .g3 (.c .z (.c .z (.c .z .n)))) (eH (K:=cA) a8 ar bp) ?_
 rw [cp] at hst
 obtain⟨af,di,cb, -⟩:=mB (show¬fC (dG ((aQ f p).2.1)) az.ents= -1 by omega)
 refine Y.eq .z (congrArg (Value.int .i64) di) ?_
 have bq:af<(aH F.inodes ((aQ f p).1)).length:=by rw [cp];exact cb
 have hrl:=aDv (F:=F) (d:=((aQ f p).1)) (t:=((aQ f q).1)) (i:=af) (by rw [hFl];assumption) (by rw [hFl];assumption) bq
 have hJG:Jf (dH F ((aQ f p).1) (List.eraseIdx (aH F.inodes ((aQ f p).1)) af)):=vR hJF
 have hGl:(dH F ((aQ f p).1) (List.eraseIdx (aH F.inodes ((aQ f p).1)) af)).inodes.length=f.inodes.length:=dF.trans hFl
 refine Y.cl rfl rfl Tryz.func178 rfl rfl (eQ (.t .g9) (.t .g8) (.t .z)) (.c .g1 (.c .z (.c .z .n))) (fun _ _ hs tr=>aHf (f:=F) _ _ hs (by first | assumption |(constructor <;> omega)) (by omega)) ?_
 rintro _ _ ⟨sh,si,rfl,rfl⟩
 refine Y.r (.c (.c (.c .n))) ?_
 refine Y.i (WS.a .g1) ?_
 rintro⟨ps,cq,rfl,lb,lc,lf⟩
 refine Y.i (WS.a .g2) ?_
 rintro⟨fg,fh,rfl,lg,lh,li⟩
 refine Y.nt (Y.seq ?_)
 refine Y.ab (.c .g1 .n) fN ?_
 rintro cr a9
 obtain⟨ab,an⟩:=aJ (xs:=(dH F ((aQ f p).1) (List.eraseIdx (aH (F).inodes ((aQ f p).1)) af)).inodes) (j:=Int.toNat ((aQ f q).1)) (by first | omega |(simp <;> omega))
 obtain⟨sj,br⟩:=aJ (xs:=cr) (j:=Int.toNat ((aQ f q).1)) (by rw [a9];exact(List.getElem?_eq_some_iff.1 an).1)
 refine Y.aq .g1 (eD an br) ?_
 refine Y.ab (.c .z .n) eZ ?_
 rintro⟨sm,sn⟩ rfl
 refine Y.i (WS.a .z) ?_
 rintro⟨ct,cu,rfl,lj,lk,ll⟩
 refine Y.i (WS.a .g1) ?_
 rintro⟨pt,pu,rfl,lm,ln,lo⟩
 have pv:=cZ (i:=((aQ f q).1)) an (by omega)
 have fi:=dD (a:=((aQ f q).1)) an (by omega)
 have pw:=dZ (a:=((aQ f q).1)) an (by omega)
 have hyl:ab.ents.length≤5:=by have e8:=congrArg List.length fi;exact iw.elim (fun h5=>by first | omega |(simp only [dH] at *;omega)) (fun h5=>by have e9:=hrl.2 h5.1;first | omega |(simp only [dH] at *;omega))
 refine Y.sel (.c .z (.c .z (.c .g4 (.c .z (.c .z (.c .z (.c .z (.c .z (.c .z .n))))))))) ?_
 refine Y.dr .g3 15 gB ?_
 refine Y.sc (qs 0 12++ [(12,false),(13,false),(14,true),(15,false)]) (by kernel_rfl) ?_
 refine Y.df rfl rfl .g3 .g10 aP (Y.dl rfl rfl .g3 bO .z .g3 (Y.dm rfl rfl .g3 .g14 (Y.df rfl rfl .g3 .g13 aP (Y.dl rfl rfl .g3 bO .z .g3 (Y.dm rfl rfl .g3 (.s16 .g1) ?_)))))
 refine Y.i (WS.h .g5 (by first | omega |(simp <;> omega) |(simp only [List.length_append,List.length_cons,List.length_nil,List.length_set] at *;omega))) ?_
 rintro⟨cv,rfl⟩
 refine Y.dk rfl rfl .g3 (aB (j:=Int.toNat ((aQ f q).1)) rfl cI aU (.t .g1) (.t .z) (by omega) (by first | omega |(simp <;> omega))) ?_
 refine Y.df rfl rfl .g3 .z bM (Y.dk rfl rfl .g3 (aN rfl eA (.t .z) (WS.j .g2 br rfl)) (Y.dm rfl rfl .g3 (.s16 .g4) (Y.dm rfl rfl .g3 (.s16 .g7) (Y.dk rfl rfl .g3 (aZ (cs:= [.string ((aQ f q).2.1),.int .i64 ag.ino]) rfl tC (pv2 (.t .g1) (.t .z)) rfl) ?_))))
 refine Y.call (aC rfl rfl) rfl (by decide) rfl (bF rfl Tryz.func128 rfl rfl (aR (.t .g3) (.t .z))) .n (fun _ _ hs tr=>aD6 (tr.own .g1) (tO (⟨(aQ f q).2.1,ag.ino⟩:bT) (by first | assumption | omega |(dsimp only;omega))) (by omega)) ?_
 rintro _ _ rfl
 refine Y.r (.c .n) ?_
 refine Y.i (WS.a .z) ?_
 rintro⟨bs,bt,rfl,lp,lq,lr⟩
 refine Y.sk .g4 ?_
 refine Y.q (aC rfl rfl) rfl (by decide) rfl (aB (j:=Int.toNat ((aQ f q).1)) rfl cI aU (.t .g11) (.t .g10) (by omega) (by first | omega |(simp <;> omega))) ?_
 refine Y.sk .g4 ?_
 refine Y.df rfl rfl .g4 .z bM ?_
 refine Y.es (aC rfl rfl) rfl (jZ (j:=Int.toNat ((aQ f q).1)) (off:=4) (cs:= [.slice bs (gG ab.ents (⟨(aQ f q).2.1,ag.ino⟩:bT)).length bt]) rfl pX (.t .z) (iK _ _ _) (.t .g2) rfl (nJ rfl) .g6 br (Nat.le_of_ble_eq_true rfl)) ?_
 refine Y.af (x':=List.set cr (Int.toNat ((aQ f q).1)) [.int .i64 ab.kind,.int .i64 ab.links,.int .i64 ab.size,.slice ct ab.blocks.length cu,.slice bs (gG ab.ents (⟨(aQ f q).2.1,ag.ino⟩:bT)).length bt]) .z rfl ?_
 refine Y.sl rfl ?_
 refine Y.aa ?_
 refine Y.ai (by kernel_rfl) ?_
 refine Y.g (Y.seq (Y.region (Y.ql rfl (qW rfl bN (.t (.s16 .g9)) .g7 aX) (Y.ql rfl (aZ (cs:= [.int .i64 0,.int .i64 0,.int .i64 0,.slice none 0 0,.slice none 0 0,.slice (some cv) ((dH F ((aQ f p).1) (List.eraseIdx (aH (F).inodes ((aQ f p).1)) af)).inodes).length cq,.slice fg ((dH F ((aQ f p).1) (List.eraseIdx (aH (F).inodes ((aQ f p).1)) af)).data).length fh]) rfl mD (pv1 (.t .z)) rfl) ?_))))
 refine Y.es (aE rfl) rfl (esW rfl (.t (.s16 (.s16 .g1))) (.t .z) .g8 bA rfl rfl) ?_
 refine Y.nt (Y.ret ?_)
 refine Y.ac (c:=aG cA (⟨ab.kind,ab.links,ab.size,ab.blocks,gG ab.ents (⟨(aQ f q).2.1,ag.ino⟩:bT)⟩:aF) [.int .i64 ab.kind,.int .i64 ab.links,.int .i64 ab.size,.slice ct ab.blocks.length cu,.slice bs (gG ab.ents (⟨(aQ f q).2.1,ag.ino⟩:bT)).length bt]) (.c .g3 (.c .g2 .n)) (fun w S h=>cP (⟨ab.kind,ab.links,ab.size,ab.blocks,gG ab.ents (⟨(aQ f q).2.1,ag.ino⟩:bT)⟩:aF) h) ?_
 refine Y.ac (c:=aG aW (List.set ((dH F ((aQ f p).1) (List.eraseIdx (aH (F).inodes ((aQ f p).1)) af)).inodes) (Int.toNat ((aQ f q).1)) (⟨ab.kind,ab.links,ab.size,ab.blocks,gG ab.ents (⟨(aQ f q).2.1,ag.ino⟩:bT)⟩:aF)) [.slice (some cv) ((dH F ((aQ f p).1) (List.eraseIdx (aH (F).inodes ((aQ f p).1)) af)).inodes).length cq]) (.c .g2 (.c .z (.c .g3 (.c .g3 .n)))) (eU (K:=cA) a9 (List.getElem?_eq_some_iff.1 an).1 rfl) ?_
 refine Y.add (c:=aG bX [] [.slice none 0 0]) (fun w S=>aK w S none) ?_
 refine Y.add (c:=aG fJ [] [.slice none 0 0]) (fun w S=>aK w S none) ?_
 refine Y.j (dA rfl (.s16 (.s16 .g1)) dO .g3 bA) (.c .g1 (.c .z (.c .z (.c .g2 .n)))) ?_
 exact⟨(⟨0,0,0,[],[],(⟨List.set ((dH F ((aQ f p).1) (List.eraseIdx (aH (F).inodes ((aQ f p).1)) af)).inodes) (Int.toNat ((aQ f q).1)) (⟨ab.kind,ab.links,ab.size,ab.blocks,gG ab.ents (⟨(aQ f q).2.1,ag.ino⟩:bT)⟩:aF),(dH F ((aQ f p).1) (List.eraseIdx (aH (F).inodes ((aQ f p).1)) af)).data⟩:DFs)⟩:eB),(by first | exact hj | assumption | exact aGg hJG an hyl (by rw [hGl];constructor <;>(dsimp only;omega)) (by dsimp only;omega)),_,_,_,_,rfl,rfl⟩

end Go.Proofs.YtmejbfmhaoilmaaGreat

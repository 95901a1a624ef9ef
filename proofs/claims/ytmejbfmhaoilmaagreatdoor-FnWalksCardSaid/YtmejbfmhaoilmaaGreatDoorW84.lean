/- What is proved: contracts of functions, one a function. No condition. -/
import Derived.Test.YtmejbfmhaoilmaaGreatDoorBase1
import Derived.Test.YtmejbfmhaoilmaaGreatDoorW82
namespace Go.Proofs.YtmejbfmhaoilmaaGreatDoor
open Go Go.RowKit
set_option linter.unusedVariables false
set_option linter.unusedSimpArgs false
set_option maxHeartbeats 1000000
set_option maxRecDepth 20000
theorem aNj {w0:World}{S0:Bs}{f:DFs}{lu:List Value} (h0:dV.ro w0 (FF w0 S0) f lu) (p:ByteArray) (so:p.size≤140737488351232) (q:ByteArray) (sp:q.size≤140737488351232) (hj:Jf f):
    Calls Tryz.prog 82 #[.agg lu.toArray,.string p,.string q] w0 (aI w0 S0 (fun r l=>∃x:dY,Jf x.fs∧wB x r l)):=by
 obtain⟨px,py,rfl,ac,ad⟩:=bZ h0
 obtain⟨dj,bu,rfl,lv,lw,lx,dp⟩:=aD ac
 obtain⟨bv,bw,rfl,ly,lz,l1,l2⟩:=aD ad
 have ht:J0 f:=hj.toJ0
 have sq:=hj.n.2
 have sr:=hj.n.1
 refine Y.enter (N:=156) Tryz.func82 rfl rfl (by simp) [(0,.agg #[.slice dj f.inodes.length bu,.slice bv f.data.length bw]),(1,.string p),(2,.string q)] (by simp) (l0:= []) trivial ?_
 refine Y.seq (Y.region ?_)
 refine Y.el rfl (fQ (cs:= [.slice dj f.inodes.length bu,.slice bv f.data.length bw]) (n:=2) rfl (.t .z) rfl rfl) ?_
 rintro _ _ ⟨g3,rfl,rfl⟩
 refine Y.el rfl (bB rfl aAv rfl rfl) ?_
 rintro _ _ ⟨g4,rfl,rfl⟩
 refine Y.nt (Y.seq (Y.region (Y.mv rfl .g3 ?_)))
 refine Y.cl rfl rfl Tryz.func100 rfl rfl (aS (.t .g2) (.t .z)) .n (fun _ _ hs tr=>xM (tr.ptr .g1 (aJ f (tr.ctx ac) (tr.ctx ad))) _ (by first | assumption | omega |(dsimp only;omega)) (by assumption)) ?_
 rintro _ _ ⟨rfl,rfl⟩
 refine Y.m .n ?_
 have l3:=mE (f:=f) (s:=p)
 have l4:=lK ht p
 refine Y.mv rfl .z (Y.ql rfl (bF (v:= .int .i64 ((aO f p).1)) rfl (.t .z) rfl) (Y.ql rfl (bF (v:= .string ((aO f p).2.1)) rfl (.t .g1) rfl) (Y.ql rfl (bF (v:= .int .i64 ((aO f p).2.2)) rfl (.t .g2) rfl) (Y.as rfl .g2 (Y.as rfl .g2 (Y.as rfl .g2 (Y.nt ?_)))))))
 refine Y.seq (Y.seq (Y.region (Y.mv rfl .z (Y.ql rfl (bW rfl (.t .z) .c) (Y.nt ?_)))))
 refine Y.ac (.t .z) (fun b7=> ?_) (fun b7=> ?_)
 refine Y.seq (Y.region (Y.ql rfl (qW rfl bX (.t .g12) .g1 bA) (Y.mv rfl .g3 ?_)))
 refine Y.cl rfl rfl Tryz.func101 rfl rfl (aS (.t .g1) (.t .z)) .n (fun _ _ hs tr=>gP (aJ f (tr.ctx ac) (tr.ctx ad)) _) ?_
 rintro _ _ ⟨v8,ss,st,su,rfl,rfl⟩
 refine Y.m (.c (.c (.c (.c .n)))) ?_
 refine Y.h (WS.a .z) ?_
 rintro⟨pz,p0,rfl,l5,l6,l7⟩
 refine Y.h (WS.a .g1) ?_
 rintro⟨p1,p2,rfl,l8,l9,ma⟩
 refine Y.h (WS.a .g2) ?_
 rintro⟨p3,p4,rfl,mb,mc,md⟩
 refine Y.h (WS.a .g3) ?_
 rintro⟨p5,p6,rfl,me,mf,mg⟩
 refine Y.es (aE rfl) rfl (esW rfl (.t .g14) (.t .z) .g4 cA rfl rfl) ?_
 refine Y.nt (Y.ret (Y.j ?_))
 refine Y.i (cU rfl .g14 eK .z cA) (.c .g1 (.c .g1 (.c .g1 (.c .g1 .n)))) ?_
 exact⟨(⟨0,((aO f p).2.2),0,[],[],(⟨f.inodes,f.data⟩:DFs)⟩:dY),(by first | exact hj | assumption),_,_,_,_,rfl,rfl⟩
 refine Y.skip (Y.g (Y.seq (Y.region (Y.fa rfl .g12 aP (Y.ld rfl bR .z .g1 (Y.mv rfl .g6 ?_))))))
 obtain⟨ds,cw,au⟩:=dp (by omega)
 subst cw
 obtain⟨bx,bb⟩:=aK (xs:=f.inodes) (j:=Int.toNat ((aO f p).1)) (by first | omega |(simp <;> omega))
 obtain⟨mh,dt,cc,cd⟩:=au.elem bb
 obtain⟨ge,gf,rfl,cx,bc⟩:=bY dt
 obtain⟨gg,gh,rfl,fj,fk,fl,fm⟩:=aD cx
 obtain⟨gi,gj,rfl,fn,fo,fp,bz⟩:=aD bc
 have p7:=cO (i:=((aO f p).1)) bb (by omega)
 have ai:=cP (a:=((aO f p).1)) bb (by omega)
 have p8:=dL (a:=((aO f p).1)) bb (by omega)
 have du:=ht.get bb
 refine Y.ql rfl (aB (j:=Int.toNat ((aO f p).1)) rfl cQ aT (.t .g1) (.t .z) (by omega) (by first | omega |(simp <;> omega))) ?_
 refine Y.fa rfl .z bL (Y.le rfl dX .z cc cd (Y.mv rfl .g9 ?_))
 refine Y.cl rfl rfl Tryz.func102 rfl rfl (aS (.t .g1) (.t .z)) .n (fun _ _ hs tr=>sD (tr.ctx bc) _ (by first | assumption | omega |(dsimp only;omega))) ?_
 rintro _ _ ⟨rfl,rfl⟩
 refine Y.m .n ?_
 refine Y.as rfl .z (Y.nt (Y.seq (Y.seq (Y.region (Y.mv rfl .z (Y.ql rfl (dA rfl (.t .z) .c) (Y.nil ?_)))))))
 refine Y.g ?_
 refine Y.u (.t .z) (fun p9=> ?_) (fun p9=> ?_)
 have mi:=gB (dE ((aO f p).2.1)) bx.ents
 refine Y.seq (Y.region (Y.ql rfl (qW rfl bX (.t (.s16 .g7)) .g1 bA) ?_))
 refine Y.cl rfl rfl Tryz.func101 rfl rfl (aS (.t .z) .c) .n (fun _ _ hs tr=>gP (aJ f (tr.ctx ac) (tr.ctx ad)) _) ?_
 rintro _ _ ⟨sv,sw,sx,sy,rfl,rfl⟩
 refine Y.m (.c (.c (.c (.c .n)))) ?_
 refine Y.h (WS.a .z) ?_
 rintro⟨qa,qb,rfl,mj,mk,ml⟩
 refine Y.h (WS.a .g1) ?_
 rintro⟨qc,qd,rfl,mm,mn,mo⟩
 refine Y.h (WS.a .g2) ?_
 rintro⟨qe,qf,rfl,mp,mq,mr⟩
 refine Y.h (WS.a .g3) ?_
 rintro⟨qh,qi,rfl,ms,mt,mu⟩
 refine Y.es (aE rfl) rfl (esW rfl (.t (.s16 .g8)) (.t .z) .g4 cA rfl rfl) ?_
 refine Y.nt (Y.ret (Y.j ?_))
 refine Y.i (cU rfl (.s16 .g8) eK .z cA) (.c .g1 (.c .g1 (.c .g1 (.c .g1 .n)))) ?_
 exact⟨(⟨0,4,0,[],[],(⟨f.inodes,f.data⟩:DFs)⟩:dY),(by first | exact hj | assumption),_,_,_,_,rfl,rfl⟩
 have mw:=gB (dE ((aO f p).2.1)) bx.ents
 refine Y.skip (Y.g (Y.seq (Y.region (Y.fa rfl (.s16 .g7) aP (Y.ld rfl bR .z .g1 (Y.mv rfl (.s16 .g1) ?_))))))
 refine Y.ql rfl (aB (j:=Int.toNat ((aO f p).1)) rfl cQ aT (.t .g1) (.t .z) (by omega) (by first | omega |(simp <;> omega))) ?_
 refine Y.fa rfl .z bL (Y.le rfl dX .z cc cd (Y.mv rfl .g8 ?_))
 obtain⟨qj,cy,cz⟩:=bz (by omega)
 subst cy
 obtain⟨ag,ba⟩:=aK (xs:=bx.ents) (j:=Int.toNat (eX (dE ((aO f p).2.1)) bx.ents)) (by first | omega |(simp <;> omega))
 obtain⟨mx,dv,dw,dx⟩:=cz.elem ba
 obtain⟨rfl,gk⟩:=eY dv
 have my:=qP du _ _ ba
 refine Y.ql rfl (aB (j:=Int.toNat (eX (dE ((aO f p).2.1)) bx.ents)) rfl dP fA (.t .g1) (.t .z) (by omega) (by first | omega |(simp <;> omega))) ?_
 refine Y.fa rfl .z gG (Y.le rfl bP .z dw dx (Y.as rfl .z (Y.nt (Y.seq (Y.region (Y.mv rfl (.s16 (.s16 .g5)) ?_))))))
 refine Y.cl rfl rfl Tryz.func100 rfl rfl (aS (.t (.s16 (.s16 .g3))) (.t .z)) .n (fun _ _ hs tr=>xM (tr.ptr .g1 (aJ f (tr.ctx ac) (tr.ctx ad))) _ (by first | assumption | omega |(dsimp only;omega)) (by assumption)) ?_
 rintro _ _ ⟨rfl,rfl⟩
 refine Y.m .n ?_
 have gl:=mE (f:=f) (s:=q)
 have gm:=lK ht q
 refine Y.mv rfl .z (Y.ql rfl (bF (v:= .int .i64 ((aO f q).1)) rfl (.t .z) rfl) (Y.ql rfl (bF (v:= .string ((aO f q).2.1)) rfl (.t .g1) rfl) (Y.ql rfl (bF (v:= .int .i64 ((aO f q).2.2)) rfl (.t .g2) rfl) (Y.as rfl .g2 (Y.as rfl .g2 (Y.er (.s16 .g16) (Y.as rfl .g2 (Y.nil ?_))))))))
 refine Y.g (Y.seq (Y.seq (Y.region (Y.mv rfl .z (Y.ql rfl (bW rfl (.t .z) .c) (Y.nt ?_))))))
 refine Y.ac (.t .z) (fun qk=> ?_) (fun qk=> ?_)
 refine Y.seq (Y.region (Y.ql rfl (qW rfl bX (.t (.s16 (.s16 .g12))) .g1 bA) (Y.mv rfl .g3 ?_)))
 refine Y.cl rfl rfl Tryz.func101 rfl rfl (aS (.t .g1) (.t .z)) .n (fun _ _ hs tr=>gP (aJ f (tr.ctx ac) (tr.ctx ad)) _) ?_
 rintro _ _ ⟨s0,s1,s2,s3,rfl,rfl⟩
 refine Y.m (.c (.c (.c (.c .n)))) ?_
 refine Y.h (WS.a .z) ?_
 rintro⟨qm,qn,rfl,mz,m0,m1⟩
 refine Y.h (WS.a .g1) ?_
 rintro⟨qo,qp,rfl,m2,m3,m4⟩
 refine Y.h (WS.a .g2) ?_
 rintro⟨qq,qr,rfl,m5,m6,m7⟩
 refine Y.h (WS.a .g3) ?_
 rintro⟨qt,qu,rfl,m8,m9,na⟩
 refine Y.es (aE rfl) rfl (esW rfl (.t (.s16 (.s16 .g14))) (.t .z) .g4 cA rfl rfl) ?_
 refine Y.nt (Y.ret (Y.j ?_))
 refine Y.i (cU rfl (.s16 (.s16 .g14)) eK .z cA) (.c .g1 (.c .g1 (.c .g1 (.c .g1 .n)))) ?_
 exact⟨(⟨0,((aO f q).2.2),0,[],[],(⟨f.inodes,f.data⟩:DFs)⟩:dY),(by first | exact hj | assumption),_,_,_,_,rfl,rfl⟩
 refine Y.skip (Y.g (Y.seq (Y.seq (Y.region (Y.fa rfl (.s16 (.s16 .g12)) aP (Y.ld rfl bR .z .g1 (Y.mv rfl .g13 ?_)))))))
 obtain⟨s4,bd⟩:=aK (xs:=f.inodes) (j:=Int.toNat ag.ino) (by first | omega |(simp <;> omega))
 obtain⟨nb,dy,dz,d0⟩:=au.elem bd
 obtain⟨gn,go,rfl,c0,c1⟩:=bY dy
 obtain⟨gp,gq,rfl,fq,fr,ft,fu⟩:=aD c0
 obtain⟨gr,gs,rfl,fv,fw,fx,fy⟩:=aD c1
 have qv:=cO (i:=ag.ino) bd (by omega)
 have b0:=cP (a:=ag.ino) bd (by omega)
 have qw:=dL (a:=ag.ino) bd (by omega)
 have nd:=ht.get bd
 refine Y.ql rfl (aB (j:=Int.toNat ag.ino) rfl cQ aT (.t .g1) (.t .z) (by omega) (by first | omega |(simp <;> omega))) ?_
 refine Y.fa rfl .z bS (Y.le rfl bP .z dz d0 (Y.ql rfl (bU rfl (.t .z) .c) (Y.mv rfl .z ?_)))
 refine Y.al .z (fun g62=> ?_) (fun g62=> ?_)
 refine Y.qg rfl rfl .z rfl rfl rfl (aR rfl (.t .g12)) ?_
 refine Y.qg rfl rfl .g1 rfl rfl rfl (aR rfl (.t (.s16 .g4))) ?_
 refine Y.call (eB rfl rfl .g2) rfl (by decide) rfl (bE rfl Tryz.func111 rfl rfl (pD (.t (.s16 (.s16 (.s16 .g6)))) (.t .g1) (.t .z) .c)) .n (fun _ _ hs tr=>aKs (tr.ptr .g1 (aJ f (tr.ctx ac) (tr.ctx ad))) _ _ _ (by assumption) (by first | assumption |(constructor <;> omega)) 10 (by omega) (by omega)) ?_
 rintro _ _ ⟨rfl,rfl⟩
 refine Y.m .n ?_
 refine Y.ql rfl (bI rfl (.t .g3) (.t .z)) (Y.nt ?_)
 refine Y.cond (.t .z) (fun qx=> ?_) (fun qx=> ?_)
 refine Y.seq (Y.region (Y.ql rfl (qW rfl bX (.t (.s16 (.s16 (.s16 .g8)))) .g1 bA) ?_))
 refine Y.cl rfl rfl Tryz.func101 rfl rfl (aS (.t .z) .c) .n (fun _ _ hs tr=>gP (aJ f (tr.ctx ac) (tr.ctx ad)) _) ?_
 rintro _ _ ⟨s5,s6,s7,s8,rfl,rfl⟩
 refine Y.m (.c (.c (.c (.c .n)))) ?_
 refine Y.h (WS.a .z) ?_
 rintro⟨qy,qz,rfl,ne,nf,ng⟩
 refine Y.h (WS.a .g1) ?_
 rintro⟨q0,q1,rfl,nh,ni,nj⟩
 refine Y.h (WS.a .g2) ?_
 rintro⟨q2,q3,rfl,nk,nl,nm⟩
 refine Y.h (WS.a .g3) ?_
 rintro⟨q4,q5,rfl,nn,no,np⟩
 refine Y.es (aE rfl) rfl (esW rfl (.t (.s16 (.s16 (.s16 .g9)))) (.t .z) .g4 cA rfl rfl) ?_
 refine Y.nt (Y.ret (Y.j ?_))
 refine Y.i (cU rfl (.s16 (.s16 (.s16 .g9))) eK .z cA) (.c .g1 (.c .g1 (.c .g1 (.c .g1 .n)))) ?_
 exact⟨(⟨0,1,0,[],[],(⟨f.inodes,f.data⟩:DFs)⟩:dY),(by first | exact hj | assumption),_,_,_,_,rfl,rfl⟩
 refine Y.skip (Y.g (Y.seq (Y.region (Y.ql rfl (qW rfl bX (.t (.s16 (.s16 (.s16 .g8)))) .g1 bA) ?_))))
 refine Y.cl rfl rfl Tryz.func104 rfl rfl (bG (.t .z)) .n (fun _ _ hs tr=>qC (aJ f (tr.ctx ac) (tr.ctx ad))) ?_
 rintro _ _ ⟨s9,ta,rfl,rfl⟩
 refine Y.m (.c (.c .n)) ?_
 refine Y.h (WS.a .z) ?_
 rintro⟨d1,d2,rfl,nq,nr,ns⟩
 refine Y.h (WS.a .g1) ?_
 rintro⟨d3,d4,rfl,nu,nv,nw⟩
 refine Y.el rfl (bB rfl rG rfl rfl) ?_
 rintro _ _ ⟨g82,rfl,rfl⟩
 refine Y.es (aE rfl) rfl (esW rfl (.t .z) (.t .g1) .z bA rfl rfl) ?_
 refine Y.nt (Y.seq (Y.region (Y.fa rfl (.s16 (.s16 (.s16 .g11))) aP (Y.ld rfl bR .z .g4 (Y.mv rfl (.s16 .g5) ?_)))))
 obtain⟨c2,be⟩:=aK (xs:=f.inodes) (j:=Int.toNat ((aO f q).1)) (by first | omega |(simp <;> omega))
 obtain⟨nx,d5,bf,bg⟩:=au.elem be
 obtain⟨gt,gu,rfl,c3,bh⟩:=bY d5
 obtain⟨gv,gw,rfl,f0,f1,f2,f3⟩:=aD c3
 obtain⟨gx,gy,rfl,f4,f5,f6,b1⟩:=aD bh
 have q6:=cO (i:=((aO f q).1)) be (by omega)
 have b2:=cP (a:=((aO f q).1)) be (by omega)
 have q7:=dL (a:=((aO f q).1)) be (by omega)
 have d6:=ht.get be
 refine Y.ql rfl (aB (j:=Int.toNat ((aO f q).1)) rfl cQ aT (.t .g1) (.t .z) (by omega) (by first | omega |(simp <;> omega))) ?_
 refine Y.fa rfl .z bL (Y.le rfl dX .z bf bg (Y.mv rfl (.s16 .g8) ?_))
 refine Y.cl rfl rfl Tryz.func102 rfl rfl (aS (.t .g1) (.t .z)) .n (fun _ _ hs tr=>sD (tr.ctx bh) _ (by first | assumption | omega |(dsimp only;omega))) ?_
 rintro _ _ ⟨rfl,rfl⟩
 refine Y.m .n ?_
 refine Y.as rfl .z (Y.nt ?_)
 refine Y.aw (γ:=(Option Addr)×Nat×(Option Addr)×Nat×DFs) (fun⟨aj,ah,ak,al,F⟩=> [(14,.pointer (some ⟨g82,0,none⟩)),(13,.string ((aO f q).2.1)),(12,.int .i64 ((aO f q).1)),(11,.int .i64 ag.ino),(8,.string ((aO f p).2.1)),(7,.int .i64 ((aO f p).1)),(6,.pointer (some ⟨g4,0,none⟩))]) (fun⟨aj,ah,ak,al,F⟩=> [bV g82 27 2 1 [.slice aj F.inodes.length ah,.slice ak F.data.length al],aH bJ F.inodes [.slice aj F.inodes.length ah],aH eH F.data [.slice ak F.data.length al],bV g4 91 7 1 [.int .i64 0,.int .i64 0,.int .i64 0,.slice none 0 0,.slice none 0 0,.slice none 0 0,.slice none 0 0],bV g3 27 2 1 [.slice (some ds) f.inodes.length bu,.slice bv f.data.length bw]]) (fun⟨aj,ah,ak,al,F⟩=>Jf F∧F.inodes.length=f.inodes.length∧0≤eX (dE ((aO f p).2.1)) (aG F.inodes ((aO f p).1))∧((aG F.inodes ((aO f q).1)).length≤5∨(((aO f q).1)=((aO f p).1)∧(aG F.inodes ((aO f q).1)).length≤6))) ?_ ?_
 refine Y.seq (Y.region (Y.mv rfl .z (Y.ql rfl (nH rfl (.t .z) .c) (Y.nt ?_))))
 refine Y.u (.t .z) (fun q8=> ?_) (fun q8=> ?_)
 have ny:=gB (dE ((aO f q).2.1)) c2.ents
 refine Y.seq (Y.region (Y.ql rfl (aN rfl (.t (.s16 (.s16 (.s16 (.s16 .g6))))) (fun _=>aP _ _)) (Y.ld rfl bR .z .g4 (Y.mv rfl (.s16 .g16) ?_))))
 refine Y.ql rfl (aB (j:=Int.toNat ((aO f q).1)) rfl cQ aT (.t .g1) (.t .z) (by omega) (by first | omega |(simp <;> omega))) ?_
 refine Y.fa rfl .z bL (Y.le rfl dX .z bf bg (Y.mv rfl .g8 ?_))
 obtain⟨q9,c4,c5⟩:=b1 (by omega)
 subst c4
 obtain⟨ra,b3⟩:=aK (xs:=c2.ents) (j:=Int.toNat (eX (dE ((aO f q).2.1)) c2.ents)) (by first | omega |(simp <;> omega))
 obtain⟨nz,d7,d8,d9⟩:=c5.elem b3
 obtain⟨rfl,gz⟩:=eY d7
 have n0:=qP d6 _ _ b3
 refine Y.ql rfl (aB (j:=Int.toNat (eX (dE ((aO f q).2.1)) c2.ents)) rfl dP fA (.t .g1) (.t .z) (by omega) (by first | omega |(simp <;> omega))) ?_
 refine Y.fa rfl .z gG (Y.le rfl bP .z d8 d9 (Y.as rfl .z (Y.nt (Y.seq (Y.seq (Y.region (Y.mv rfl .z ?_)))))))
 refine Y.mv rfl (.s16 (.s16 (.s16 .g1))) (Y.ql rfl (bU rfl (.t .g1) (.t .z)) (Y.nt ?_))
 refine Y.u (.t .z) (fun rb=> ?_) (fun rb=> ?_)
 refine Y.seq (Y.region (Y.ql rfl (qW rfl bX (.t (.s16 (.s16 (.s16 (.s16 (.s16 .g4)))))) .g4 bA) ?_))
 refine Y.cl rfl rfl Tryz.func101 rfl rfl (aS (.t .z) .c) .n (fun _ _ hs tr=>gP (aJ f (tr.ctx ac) (tr.ctx ad)) _) ?_
 rintro _ _ ⟨tb,tc,td,te,rfl,rfl⟩
 refine Y.m (.c (.c (.c (.c .n)))) ?_
 refine Y.h (WS.a .z) ?_
 rintro⟨n1,n2,rfl,g0,ha,hb⟩
 refine Y.h (WS.a .g1) ?_
 rintro⟨n3,n4,rfl,hc,hd,he⟩
 refine Y.h (WS.a .g2) ?_
 rintro⟨n5,n6,rfl,hf,hg,hh⟩
 refine Y.h (WS.a .g3) ?_
 rintro⟨n7,n8,rfl,hi,hk,hl⟩
 refine Y.es (aE rfl) rfl (esW rfl (.t (.s16 (.s16 (.s16 (.s16 (.s16 .g5)))))) (.t .z) .g7 cA rfl rfl) ?_
 refine Y.nt (Y.ret (Y.j (Y.j ?_)))
 refine Y.i (cU rfl (.s16 (.s16 (.s16 (.s16 (.s16 .g5))))) eK .z cA) (.c .g1 (.c .g1 (.c .g1 (.c .g1 .n)))) ?_
 exact⟨(⟨0,0,0,[],[],(⟨f.inodes,f.data⟩:DFs)⟩:dY),(by first | exact hj | assumption),_,_,_,_,rfl,rfl⟩
 refine Y.skip (Y.g (Y.seq (Y.seq (Y.region (Y.mv rfl (.s16 (.s16 (.s16 .g3))) (Y.mv rfl .g4 ?_))))))
 refine Y.cl rfl rfl Tryz.func112 rfl rfl (eL (.t (.s16 (.s16 (.s16 (.s16 (.s16 .g6)))))) (.t .g1) (.t .z)) .n (fun _ _ hs tr=>aJ8 (tr.ptr .g4 (aJ f (tr.ctx ac) (tr.ctx ad))) _ _ (by first | assumption |(constructor <;> omega)) (by first | assumption |(constructor <;> omega))) ?_
 rintro _ _ ⟨ea,c6,rfl,rfl⟩
 refine Y.m .n ?_
 refine Y.as rfl .z (Y.nt (Y.seq (Y.region (Y.mv rfl .z (Y.ql rfl (bW rfl (.t .z) .c) (Y.nt ?_))))))
 refine Y.ac (.t .z) (fun hm=> ?_) (fun hm=> ?_)
 refine Y.seq (Y.region (Y.ql rfl (qW rfl bX (.t (.s16 (.s16 (.s16 (.s16 (.s16 .g10)))))) .g4 bA) (Y.mv rfl .g3 ?_)))
 refine Y.cl rfl rfl Tryz.func101 rfl rfl (aS (.t .g1) (.t .z)) .n (fun _ _ hs tr=>gP (aJ f (tr.ctx ac) (tr.ctx ad)) _) ?_
 rintro _ _ ⟨rc,rd,re,rf,rfl,rfl⟩
 refine Y.m (.c (.c (.c (.c .n)))) ?_
 refine Y.h (WS.a .z) ?_
 rintro⟨n9,oa,rfl,hn,ho,hp⟩
 refine Y.h (WS.a .g1) ?_
 rintro⟨ob,oc,rfl,hq,hr,hu⟩
 refine Y.h (WS.a .g2) ?_
 rintro⟨od,oe,rfl,hv,hw,hx⟩
 refine Y.h (WS.a .g3) ?_
 rintro⟨og,oh,rfl,hy,hz,h1⟩
 refine Y.es (aE rfl) rfl (esW rfl (.t (.s16 (.s16 (.s16 (.s16 (.s16 .g12)))))) (.t .z) .g7 cA rfl rfl) ?_
 refine Y.nt (Y.ret (Y.j (Y.j ?_)))
 refine Y.i (cU rfl (.s16 (.s16 (.s16 (.s16 (.s16 .g12))))) eK .z cA) (.c .g1 (.c .g1 (.c .g1 (.c .g1 .n)))) ?_
 exact⟨(⟨0,ea,0,[],[],(⟨f.inodes,f.data⟩:DFs)⟩:dY),(by first | exact hj | assumption),_,_,_,_,rfl,rfl⟩
 refine Y.skip (Y.g (Y.region (Y.mv rfl (.s16 (.s16 (.s16 .g2))) (Y.mv rfl (.s16 .g7) ?_))))
 obtain⟨ao,c7,b4, -⟩:=mA (show¬eX (dE ((aO f q).2.1)) c2.ents= -1 by omega)
 refine Y.eq .z (congrArg (Value.int .i64) c7) ?_
 have av:ao<(aG f.inodes ((aO f q).1)).length:=by rw [b2];exact b4
 have hFl:(iX f ((aO f q).1) ao).inodes.length=f.inodes.length:=zK
 refine Y.cl rfl rfl Tryz.func110 rfl rfl (eL (.t (.s16 (.s16 .g1))) (.t .g1) (.t .z)) (.c .z (.c .z (.c .z .n))) (fun _ _ hs tr=>aB1 (f:=f) _ _ hs (by assumption) (by first | assumption |(constructor <;> omega)) (by first | omega | assumption)) ?_
 rintro _ _ ⟨rg,rh,rfl,rfl⟩
 refine Y.m (.c (.c (.c .n))) ?_
 refine Y.h (WS.a .g1) ?_
 rintro⟨eb,ec,rfl,h2,h3,h4⟩
 refine Y.h (WS.a .g2) ?_
 rintro⟨ed,ee,rfl,h6,h7,h8⟩
 refine Y.nil ?_
 have h6t:=kQ ht ((aO f q).1)
 obtain⟨i0,h9,ia, -⟩:=mA (show¬eX (dE ((aO f p).2.1)) bx.ents= -1 by omega)
 have ib:eX (dE ((aO f p).2.1)) (aG f.inodes ((aO f p).1))=(i0:Int):=by rw [ai];exact h9
 have ic:eT (aG f.inodes ((aO f p).1)) i0=ag.ino:=by rw [ai];exact mW (by first | exact ba |(rw [show i0=Int.toNat (eX (dE ((aO f p).2.1)) bx.ents) by omega];exact ba))
 have ef:eT (aG f.inodes ((aO f q).1)) ao=ra.ino:=by rw [b2];exact mW (by first | exact b3 |(rw [show ao=Int.toNat (eX (dE ((aO f q).2.1)) c2.ents) by omega];exact b3))
 have hst:=zV hj (by assumption) (by assumption) ib av (by rw [ef,ic];first | assumption | omega) (by rw [ef];first | assumption | exact c6 (by omega))
 have hsh:=tU (f:=f) (a:=((aO f q).1)) (i:=ao) (by omega) av
 exact Y.ao (eb,ec,ed,ee,(iX f ((aO f q).1) ao)) ⟨by first | exact hj | exact jB hj _ _,by first | rfl | assumption,hst,by first | omega |(left;omega) |(right;omega)⟩ (.c (.s16 (.s16 .g2)) (.c (.s16 (.s16 (.s16 .g4))) (.c (.s16 (.s16 (.s16 .g5))) (.c (.s16 (.s16 (.s16 .g12))) (.c (.s16 (.s16 (.s16 (.s16 (.s16 .g4))))) (.c (.s16 (.s16 (.s16 (.s16 (.s16 .g5))))) (.c (.s16 (.s16 (.s16 (.s16 (.s16 .g12))))) .n))))))) (fun _ h=>h.sel (.c .z (.c .z (.c .z (.c .z (.c .z .n))))))
 have id:=gB (dE ((aO f q).2.1)) c2.ents
 refine Y.seq (Y.region (Y.mv rfl (.s16 .g14) (Y.mv rfl (.s16 (.s16 (.s16 .g15))) (Y.ql rfl (bW rfl (.t .g1) (.t .z)) (Y.mv rfl .z ?_)))))
 refine Y.an .z (fun g127=> ?_) (fun g127=> ?_)
 refine Y.qg rfl rfl .z rfl rfl rfl (aN rfl (.t (.s16 (.s16 (.s16 (.s16 .g10))))) (fun _=>aP _ _)) ?_
 refine Y.qg rfl rfl .g1 rfl rfl rfl (aM rfl bR (.t .z) (WS.g .g4 rfl)) ?_
 refine Y.qg rfl rfl .g2 rfl rfl rfl (aR rfl (.t (.s16 (.s16 .g4)))) ?_
 refine Y.qg rfl rfl .g3 rfl rfl rfl (aB (j:=Int.toNat ((aO f q).1)) rfl cQ aT (.t .g1) (.t .z) (by omega) (by first | omega |(simp <;> omega))) ?_
 refine Y.qg rfl rfl .g4 rfl rfl rfl (aN rfl (.t .z) (fun _=>bL _ _)) ?_
 refine Y.qg rfl rfl .g5 rfl rfl rfl (aM rfl dX (.t .z) (WS.el bf bg rfl)) ?_
 refine Y.qg rfl rfl .g6 rfl rfl rfl (bD rfl dP (.t .z)) ?_
 refine Y.qg rfl rfl .g7 rfl rfl rfl (nH rfl (.t .z) .c) ?_
 refine Y.ql rfl (bI rfl (.t .g8) (.t .z)) (Y.nt ?_)
 refine Y.u (.t .z) (fun ie=> ?_) (fun ie=> ?_)
 refine Y.seq (Y.region (Y.ql rfl (qW rfl bX (.t (.s16 (.s16 (.s16 (.s16 (.s16 .g3)))))) .g4 bA) ?_))
 refine Y.cl rfl rfl Tryz.func101 rfl rfl (aS (.t .z) .c) .n (fun _ _ hs tr=>gP (aJ f (tr.ctx ac) (tr.ctx ad)) _) ?_
 rintro _ _ ⟨ri,rj,rk,rl,rfl,rfl⟩
 refine Y.m (.c (.c (.c (.c .n)))) ?_
 refine Y.h (WS.a .z) ?_
 rintro⟨oi,oj,rfl,ig,ih,ii⟩
 refine Y.h (WS.a .g1) ?_
 rintro⟨ok,ol,rfl,ij,ik,il⟩
 refine Y.h (WS.a .g2) ?_
 rintro⟨om,on,rfl,im,io,ip⟩
 refine Y.h (WS.a .g3) ?_
 rintro⟨oo,op,rfl,iq,ir,it⟩
 refine Y.es (aE rfl) rfl (esW rfl (.t (.s16 (.s16 (.s16 (.s16 (.s16 .g4)))))) (.t .z) .g7 cA rfl rfl) ?_
 refine Y.nt (Y.ret (Y.j ?_))
 refine Y.i (cU rfl (.s16 (.s16 (.s16 (.s16 (.s16 .g4))))) eK .z cA) (.c .g1 (.c .g1 (.c .g1 (.c .g1 .n)))) ?_
 exact⟨(⟨0,2,0,[],[],(⟨f.inodes,f.data⟩:DFs)⟩:dY),(by first | exact hj | assumption),_,_,_,_,rfl,rfl⟩
 refine Y.skip ?_
 have h6t:=kQ ht ((aO f q).1)
 have hst:0≤eX (dE ((aO f p).2.1)) (aG f.inodes ((aO f p).1)):=by rw [ai];omega
 have iu:=congrArg List.length ai;have iv:=congrArg List.length b0;have iw:=congrArg List.length b2
 exact Y.ao (d1,d2,d3,d4,f) ⟨by first | exact hj | exact jB hj _ _,by first | rfl | assumption,hst,by first | omega |(left;omega) |(right;omega)⟩ (.c (.s16 .g8) (.c (.s16 (.s16 .g10)) (.c (.s16 (.s16 .g11)) (.c (.s16 (.s16 (.s16 .g2))) (.c (.s16 (.s16 (.s16 (.s16 .g10)))) (.c (.s16 (.s16 (.s16 (.s16 .g11)))) (.c (.s16 (.s16 (.s16 (.s16 (.s16 .g2))))) .n))))))) (fun _ h=>h.sel (.c .z (.c .z (.c .z (.c .z (.c .z .n))))))
 refine Y.r rfl rfl .z rfl rfl (by decide) rfl ?_
 refine Y.r rfl rfl .g1 rfl rfl (by decide) rfl ?_
 refine Y.r rfl rfl .g2 rfl rfl (by decide) rfl ?_
 refine Y.r rfl rfl .g3 rfl rfl (by decide) rfl ?_
 refine Y.r rfl rfl .g4 rfl rfl (by decide) rfl ?_
 refine Y.r rfl rfl .g5 rfl rfl (by decide) rfl ?_
 refine Y.r rfl rfl .g6 rfl rfl (by decide) rfl ?_
 refine Y.r rfl rfl .g7 rfl rfl (by decide) rfl ?_
 refine Y.ql rfl (bH rfl (.t .g8) .c) (Y.nt ?_)
 refine Y.ap (.t .z) ?_
 refine Y.skip ?_
 have h6t:=kQ ht ((aO f q).1)
 have hst:0≤eX (dE ((aO f p).2.1)) (aG f.inodes ((aO f p).1)):=by rw [ai];omega
 have iu:=congrArg List.length ai;have iv:=congrArg List.length b0;have iw:=congrArg List.length b2
 exact Y.ao (d1,d2,d3,d4,f) ⟨by first | exact hj | exact jB hj _ _,by first | rfl | assumption,hst,by first | omega |(left;omega) |(right;omega)⟩ (.c (.s16 .g8) (.c (.s16 (.s16 .g10)) (.c (.s16 (.s16 .g11)) (.c (.s16 (.s16 (.s16 .g2))) (.c (.s16 (.s16 (.s16 (.s16 .g10)))) (.c (.s16 (.s16 (.s16 (.s16 .g11)))) (.c (.s16 (.s16 (.s16 (.s16 (.s16 .g2))))) .n))))))) (fun _ h=>h.sel (.c .z (.c .z (.c .z (.c .z (.c .z .n))))))
 rintro⟨aj,ah,ak,al,F⟩ ⟨hJF,hFl,hst,ix⟩
 refine Y.seq (Y.region (Y.mv rfl .g5 (Y.fa rfl .g1 aP (Y.ld rfl bR .z .z (Y.mv rfl .g8 ?_)))))
 refine Y.aa (.c .g1 .n) fP ?_
 rintro eg a3
 obtain⟨aw,ap⟩:=aK (xs:=F.inodes) (j:=Int.toNat ((aO f p).1)) (by first | omega |(simp <;> omega))
 obtain⟨rm,bi⟩:=aK (xs:=eg) (j:=Int.toNat ((aO f p).1)) (by rw [a3];exact(List.getElem?_eq_some_iff.1 ap).1)
 refine Y.au .g1 (eJ ap bi) ?_
 refine Y.aa (.c .z .n) fC ?_
 rintro⟨rn,rp⟩ rfl
 refine Y.h (WS.a .z) ?_
 rintro⟨eh,ei,rfl,iy,iz,i1⟩
 refine Y.h (WS.a .g1) ?_
 rintro⟨ej,ek,rfl,i2,i3,i4⟩
 have oq:=cO (i:=((aO f p).1)) ap (by omega)
 have ce:=cP (a:=((aO f p).1)) ap (by omega)
 have ot:=dL (a:=((aO f p).1)) ap (by omega)
 refine Y.h (WS.h .g4 (by first | omega |(simp <;> omega) |(simp only [List.length_append,List.length_cons,List.length_nil,List.length_set] at *;omega))) ?_
 rintro⟨em,rfl⟩
 refine Y.ql rfl (aB (j:=Int.toNat ((aO f p).1)) rfl cQ aT (.t .g1) (.t .z) (by omega) (by first | omega |(simp <;> omega))) ?_
 refine Y.fa rfl .z bL (Y.ql rfl (aM rfl dX (.t .z) (WS.j .g4 bi rfl)) (Y.mv rfl .g11 ?_))
 refine Y.cl rfl rfl Tryz.func102 rfl rfl (aS (.t .g1) (.t .z)) .n (fun _ _ hs tr=>sD (tr.own .g1) _ (by first | assumption | omega |(dsimp only;omega))) ?_
 rintro _ _ ⟨rfl,rfl⟩
 refine Y.m .n ?_
 refine Y.ad (c:=aH cR aw [.int .i64 aw.kind,.int .i64 aw.links,.int .i64 aw.size,.slice eh aw.blocks.length ei,.slice ej aw.ents.length ek]) (.c .z (.c .z .n)) (fun w S h=>cZ aw h) ?_
 refine Y.ad (c:=aH bJ F.inodes [.slice (some em) F.inodes.length ah]) (.c .g3 (.c .z (.c .z (.c .z .n)))) (eM (K:=cR) a3 ap bi) ?_
 rw [ce] at hst
 obtain⟨ae,c8,b5, -⟩:=mA (show¬eX (dE ((aO f p).2.1)) aw.ents= -1 by omega)
 refine Y.eq .z (congrArg (Value.int .i64) c8) ?_
 have bj:ae<(aG F.inodes ((aO f p).1)).length:=by rw [ce];exact b5
 have hrl:=aFi (F:=F) (d:=((aO f p).1)) (t:=((aO f q).1)) (i:=ae) (by rw [hFl];assumption) (by rw [hFl];assumption) bj
 have hJG:Jf (dG F ((aO f p).1) (List.eraseIdx (aG F.inodes ((aO f p).1)) ae)):=wL hJF
 have hGl:(dG F ((aO f p).1) (List.eraseIdx (aG F.inodes ((aO f p).1)) ae)).inodes.length=f.inodes.length:=dF.trans hFl
 refine Y.cl rfl rfl Tryz.func113 rfl rfl (eL (.t .g9) (.t .g8) (.t .z)) (.c .g1 (.c .z (.c .z .n))) (fun _ _ hs tr=>aHb (f:=F) _ _ hs (by first | assumption |(constructor <;> omega)) (by omega)) ?_
 rintro _ _ ⟨rq,rr,rfl,rfl⟩
 refine Y.m (.c (.c (.c .n))) ?_
 refine Y.h (WS.a .g1) ?_
 rintro⟨ou,cf,rfl,i5,i6,i7⟩
 refine Y.h (WS.a .g2) ?_
 rintro⟨en,eo,rfl,i8,i9,ja⟩
 refine Y.nt (Y.seq ?_)
 refine Y.aa (.c .g1 .n) fP ?_
 rintro cg a4
 obtain⟨aa,am⟩:=aK (xs:=(dG F ((aO f p).1) (List.eraseIdx (aG (F).inodes ((aO f p).1)) ae)).inodes) (j:=Int.toNat ((aO f q).1)) (by first | omega |(simp <;> omega))
 obtain⟨rs,bk⟩:=aK (xs:=cg) (j:=Int.toNat ((aO f q).1)) (by rw [a4];exact(List.getElem?_eq_some_iff.1 am).1)
 refine Y.au .g1 (eJ am bk) ?_
 refine Y.aa (.c .z .n) fC ?_
 rintro⟨rt,ru⟩ rfl
 refine Y.h (WS.a .z) ?_
 rintro⟨ch,ci,rfl,jb,jc,jd⟩
 refine Y.h (WS.a .g1) ?_
 rintro⟨ov,ow,rfl,je,jf,jg⟩
 have ox:=cO (i:=((aO f q).1)) am (by omega)
 have ep:=cP (a:=((aO f q).1)) am (by omega)
 have oy:=dL (a:=((aO f q).1)) am (by omega)
 have hyl:aa.ents.length≤5:=by have e8:=congrArg List.length ep;exact ix.elim (fun h5=>by first | omega |(simp only [dG] at *;omega)) (fun h5=>by have e9:=hrl.2 h5.1;first | omega |(simp only [dG] at *;omega))
 refine Y.sel (.c .z (.c .z (.c .g4 (.c .z (.c .z (.c .z (.c .z (.c .z (.c .z .n))))))))) ?_
 refine Y.dr .g3 15 fR ?_
 refine Y.sc (qs 0 12++ [(12,false),(13,false),(14,true),(15,false)]) (by kernel_rfl) ?_
 refine Y.df rfl rfl .g3 .g10 aP (Y.dl rfl rfl .g3 bR .z .g3 (Y.dm rfl rfl .g3 .g14 (Y.df rfl rfl .g3 .g13 aP (Y.dl rfl rfl .g3 bR .z .g3 (Y.dm rfl rfl .g3 (.s16 .g1) ?_)))))
 refine Y.h (WS.h .g5 (by first | omega |(simp <;> omega) |(simp only [List.length_append,List.length_cons,List.length_nil,List.length_set] at *;omega))) ?_
 rintro⟨cj,rfl⟩
 refine Y.dk rfl rfl .g3 (aB (j:=Int.toNat ((aO f q).1)) rfl cQ aT (.t .g1) (.t .z) (by omega) (by first | omega |(simp <;> omega))) ?_
 refine Y.df rfl rfl .g3 .z bL (Y.dk rfl rfl .g3 (aM rfl dX (.t .z) (WS.j .g2 bk rfl)) (Y.dm rfl rfl .g3 (.s16 .g4) (Y.dm rfl rfl .g3 (.s16 .g7) (Y.dk rfl rfl .g3 (aW (cs:= [.string ((aO f q).2.1),.int .i64 ag.ino]) rfl uJ (pv2 (.t .g1) (.t .z)) rfl) ?_))))
 refine Y.call (aC rfl rfl) rfl (by decide) rfl (bE rfl Tryz.func114 rfl rfl (aS (.t .g3) (.t .z))) .n (fun _ _ hs tr=>aEd (tr.own .g1) (uW (⟨(aO f q).2.1,ag.ino⟩:bO) (by first | assumption | omega |(dsimp only;omega))) (by omega)) ?_
 rintro _ _ rfl
 refine Y.m (.c .n) ?_
 refine Y.h (WS.a .z) ?_
 rintro⟨bm,bn,rfl,jh,ji,jj⟩
 refine Y.sk .g4 ?_
 refine Y.q (aC rfl rfl) rfl (by decide) rfl (aB (j:=Int.toNat ((aO f q).1)) rfl cQ aT (.t .g11) (.t .g10) (by omega) (by first | omega |(simp <;> omega))) ?_
 refine Y.sk .g4 ?_
 refine Y.df rfl rfl .g4 .z bL ?_
 refine Y.es (aC rfl rfl) rfl (kU (j:=Int.toNat ((aO f q).1)) (off:=4) (cs:= [.slice bm (fZ aa.ents (⟨(aO f q).2.1,ag.ino⟩:bO)).length bn]) rfl qO (.t .z) (jA _ _ _) (.t .g2) rfl (pX rfl) .g6 bk (Nat.le_of_ble_eq_true rfl)) ?_
 refine Y.ah (x':=List.set cg (Int.toNat ((aO f q).1)) [.int .i64 aa.kind,.int .i64 aa.links,.int .i64 aa.size,.slice ch aa.blocks.length ci,.slice bm (fZ aa.ents (⟨(aO f q).2.1,ag.ino⟩:bO)).length bn]) .z rfl ?_
 refine Y.sl rfl ?_
 refine Y.w ?_
 refine Y.af (by kernel_rfl) ?_
 refine Y.g (Y.seq (Y.region (Y.ql rfl (qW rfl bX (.t (.s16 .g9)) .g7 bA) (Y.ql rfl (aW (cs:= [.int .i64 0,.int .i64 0,.int .i64 0,.slice none 0 0,.slice none 0 0,.slice (some cj) ((dG F ((aO f p).1) (List.eraseIdx (aG (F).inodes ((aO f p).1)) ae)).inodes).length cf,.slice en ((dG F ((aO f p).1) (List.eraseIdx (aG (F).inodes ((aO f p).1)) ae)).data).length eo]) rfl pB (pv1 (.t .z)) rfl) ?_))))
 refine Y.es (aE rfl) rfl (esW rfl (.t (.s16 (.s16 .g1))) (.t .z) .g8 cA rfl rfl) ?_
 refine Y.nt (Y.ret ?_)
 refine Y.ad (c:=aH cR (⟨aa.kind,aa.links,aa.size,aa.blocks,fZ aa.ents (⟨(aO f q).2.1,ag.ino⟩:bO)⟩:aF) [.int .i64 aa.kind,.int .i64 aa.links,.int .i64 aa.size,.slice ch aa.blocks.length ci,.slice bm (fZ aa.ents (⟨(aO f q).2.1,ag.ino⟩:bO)).length bn]) (.c .g3 (.c .g2 .n)) (fun w S h=>cZ (⟨aa.kind,aa.links,aa.size,aa.blocks,fZ aa.ents (⟨(aO f q).2.1,ag.ino⟩:bO)⟩:aF) h) ?_
 refine Y.ad (c:=aH bJ (List.set ((dG F ((aO f p).1) (List.eraseIdx (aG (F).inodes ((aO f p).1)) ae)).inodes) (Int.toNat ((aO f q).1)) (⟨aa.kind,aa.links,aa.size,aa.blocks,fZ aa.ents (⟨(aO f q).2.1,ag.ino⟩:bO)⟩:aF)) [.slice (some cj) ((dG F ((aO f p).1) (List.eraseIdx (aG (F).inodes ((aO f p).1)) ae)).inodes).length cf]) (.c .g2 (.c .z (.c .g3 (.c .g3 .n)))) (eU (K:=cR) a4 (List.getElem?_eq_some_iff.1 am).1 rfl) ?_
 refine Y.add (c:=aH dD [] [.slice none 0 0]) (fun w S=>aL w S none) ?_
 refine Y.add (c:=aH cT [] [.slice none 0 0]) (fun w S=>aL w S none) ?_
 refine Y.i (cU rfl (.s16 (.s16 .g1)) eK .g3 cA) (.c .g1 (.c .z (.c .z (.c .g2 .n)))) ?_
 exact⟨(⟨0,0,0,[],[],(⟨List.set ((dG F ((aO f p).1) (List.eraseIdx (aG (F).inodes ((aO f p).1)) ae)).inodes) (Int.toNat ((aO f q).1)) (⟨aa.kind,aa.links,aa.size,aa.blocks,fZ aa.ents (⟨(aO f q).2.1,ag.ino⟩:bO)⟩:aF),(dG F ((aO f p).1) (List.eraseIdx (aG (F).inodes ((aO f p).1)) ae)).data⟩:DFs)⟩:dY),(by first | exact hj | assumption | exact aG4 hJG am hyl (by rw [hGl];constructor <;>(dsimp only;omega)) (by dsimp only;omega)),_,_,_,_,rfl,rfl⟩
 refine Y.r rfl rfl .z rfl rfl (by decide) rfl ?_
 refine Y.r rfl rfl .g1 rfl rfl (by decide) rfl ?_
 refine Y.r rfl rfl .g2 rfl rfl (by decide) rfl ?_
 refine Y.ql rfl (bH rfl (.t .g3) .c) (Y.nt ?_)
 refine Y.ap (.t .z) ?_
 refine Y.skip (Y.g (Y.seq (Y.region (Y.ql rfl (qW rfl bX (.t (.s16 (.s16 (.s16 .g8)))) .g1 bA) ?_))))
 refine Y.cl rfl rfl Tryz.func104 rfl rfl (bG (.t .z)) .n (fun _ _ hs tr=>qC (aJ f (tr.ctx ac) (tr.ctx ad))) ?_
 rintro _ _ ⟨rv,rx,rfl,rfl⟩
 refine Y.m (.c (.c .n)) ?_
 refine Y.h (WS.a .z) ?_
 rintro⟨ck,cm,rfl,jk,jl,jm⟩
 refine Y.h (WS.a .g1) ?_
 rintro⟨cn,co,rfl,jn,jo,jp⟩
 refine Y.el rfl (bB rfl rG rfl rfl) ?_
 rintro _ _ ⟨g183,rfl,rfl⟩
 refine Y.es (aE rfl) rfl (esW rfl (.t .z) (.t .g1) .z bA rfl rfl) ?_
 refine Y.nt (Y.seq (Y.region (Y.fa rfl (.s16 (.s16 (.s16 .g11))) aP (Y.ld rfl bR .z .g4 (Y.mv rfl (.s16 .g5) ?_)))))
 obtain⟨a0,ax⟩:=aK (xs:=f.inodes) (j:=Int.toNat ((aO f q).1)) (by first | omega |(simp <;> omega))
 obtain⟨jq,c9,a1,a2⟩:=au.elem ax
 obtain⟨f7,f8,rfl,b6,a5⟩:=bY c9
 obtain⟨f9,ga,rfl,et,eu,ev,ew⟩:=aD b6
 obtain⟨gb,gc,rfl,ey,ez,e0,bo⟩:=aD a5
 have oz:=cO (i:=((aO f q).1)) ax (by omega)
 have a6:=cP (a:=((aO f q).1)) ax (by omega)
 have o0:=dL (a:=((aO f q).1)) ax (by omega)
 have da:=ht.get ax
 refine Y.ql rfl (aB (j:=Int.toNat ((aO f q).1)) rfl cQ aT (.t .g1) (.t .z) (by omega) (by first | omega |(simp <;> omega))) ?_
 refine Y.fa rfl .z bL (Y.le rfl dX .z a1 a2 (Y.mv rfl (.s16 .g8) ?_))
 refine Y.cl rfl rfl Tryz.func102 rfl rfl (aS (.t .g1) (.t .z)) .n (fun _ _ hs tr=>sD (tr.ctx a5) _ (by first | assumption | omega |(dsimp only;omega))) ?_
 rintro _ _ ⟨rfl,rfl⟩
 refine Y.m .n ?_
 refine Y.as rfl .z (Y.nt ?_)
 refine Y.aw (γ:=(Option Addr)×Nat×(Option Addr)×Nat×DFs) (fun⟨aj,ah,ak,al,F⟩=> [(14,.pointer (some ⟨g183,0,none⟩)),(13,.string ((aO f q).2.1)),(12,.int .i64 ((aO f q).1)),(11,.int .i64 ag.ino),(8,.string ((aO f p).2.1)),(7,.int .i64 ((aO f p).1)),(6,.pointer (some ⟨g4,0,none⟩))]) (fun⟨aj,ah,ak,al,F⟩=> [bV g183 27 2 1 [.slice aj F.inodes.length ah,.slice ak F.data.length al],aH bJ F.inodes [.slice aj F.inodes.length ah],aH eH F.data [.slice ak F.data.length al],bV g4 91 7 1 [.int .i64 0,.int .i64 0,.int .i64 0,.slice none 0 0,.slice none 0 0,.slice none 0 0,.slice none 0 0],bV g3 27 2 1 [.slice (some ds) f.inodes.length bu,.slice bv f.data.length bw]]) (fun⟨aj,ah,ak,al,F⟩=>Jf F∧F.inodes.length=f.inodes.length∧0≤eX (dE ((aO f p).2.1)) (aG F.inodes ((aO f p).1))∧((aG F.inodes ((aO f q).1)).length≤5∨(((aO f q).1)=((aO f p).1)∧(aG F.inodes ((aO f q).1)).length≤6))) ?_ ?_
 refine Y.seq (Y.region (Y.mv rfl .z (Y.ql rfl (nH rfl (.t .z) .c) (Y.nt ?_))))
 refine Y.u (.t .z) (fun jr=> ?_) (fun jr=> ?_)
 have js:=gB (dE ((aO f q).2.1)) a0.ents
 refine Y.seq (Y.region (Y.ql rfl (aN rfl (.t (.s16 (.s16 (.s16 (.s16 .g6))))) (fun _=>aP _ _)) (Y.ld rfl bR .z .g4 (Y.mv rfl (.s16 .g16) ?_))))
 refine Y.ql rfl (aB (j:=Int.toNat ((aO f q).1)) rfl cQ aT (.t .g1) (.t .z) (by omega) (by first | omega |(simp <;> omega))) ?_
 refine Y.fa rfl .z bL (Y.le rfl dX .z a1 a2 (Y.mv rfl .g8 ?_))
 obtain⟨o1,b8,b9⟩:=bo (by omega)
 subst b8
 obtain⟨jt,a7⟩:=aK (xs:=a0.ents) (j:=Int.toNat (eX (dE ((aO f q).2.1)) a0.ents)) (by first | omega |(simp <;> omega))
 obtain⟨ju,db,dc,dd⟩:=b9.elem a7
 obtain⟨rfl,gd⟩:=eY db
 have jv:=qP da _ _ a7
 refine Y.ql rfl (aB (j:=Int.toNat (eX (dE ((aO f q).2.1)) a0.ents)) rfl dP fA (.t .g1) (.t .z) (by omega) (by first | omega |(simp <;> omega))) ?_
 refine Y.fa rfl .z gG (Y.le rfl bP .z dc dd (Y.as rfl .z (Y.nt (Y.seq (Y.seq (Y.region (Y.mv rfl .z ?_)))))))
 refine Y.mv rfl (.s16 (.s16 (.s16 .g1))) (Y.ql rfl (bU rfl (.t .g1) (.t .z)) (Y.nt ?_))
 refine Y.u (.t .z) (fun jw=> ?_) (fun jw=> ?_)
 refine Y.seq (Y.region (Y.ql rfl (qW rfl bX (.t (.s16 (.s16 (.s16 (.s16 (.s16 .g4)))))) .g4 bA) ?_))
 refine Y.cl rfl rfl Tryz.func101 rfl rfl (aS (.t .z) .c) .n (fun _ _ hs tr=>gP (aJ f (tr.ctx ac) (tr.ctx ad)) _) ?_
 rintro _ _ ⟨ry,rz,r0,r1,rfl,rfl⟩
 refine Y.m (.c (.c (.c (.c .n)))) ?_
 refine Y.h (WS.a .z) ?_
 rintro⟨o2,o3,rfl,jx,jy,jz⟩
 refine Y.h (WS.a .g1) ?_
 rintro⟨o4,o5,rfl,j0,j1,j2⟩
 refine Y.h (WS.a .g2) ?_
 rintro⟨o6,o7,rfl,j3,j4,j5⟩
 refine Y.h (WS.a .g3) ?_
 rintro⟨o8,o9,rfl,j6,j7,j8⟩
 refine Y.es (aE rfl) rfl (esW rfl (.t (.s16 (.s16 (.s16 (.s16 (.s16 .g5)))))) (.t .z) .g7 cA rfl rfl) ?_
 refine Y.nt (Y.ret (Y.j (Y.j ?_)))
 refine Y.i (cU rfl (.s16 (.s16 (.s16 (.s16 (.s16 .g5))))) eK .z cA) (.c .g1 (.c .g1 (.c .g1 (.c .g1 .n)))) ?_
 exact⟨(⟨0,0,0,[],[],(⟨f.inodes,f.data⟩:DFs)⟩:dY),(by first | exact hj | assumption),_,_,_,_,rfl,rfl⟩
 refine Y.skip (Y.g (Y.seq (Y.seq (Y.region (Y.mv rfl (.s16 (.s16 (.s16 .g3))) (Y.mv rfl .g4 ?_))))))
 refine Y.cl rfl rfl Tryz.func112 rfl rfl (eL (.t (.s16 (.s16 (.s16 (.s16 (.s16 .g6)))))) (.t .g1) (.t .z)) .n (fun _ _ hs tr=>aJ8 (tr.ptr .g4 (aJ f (tr.ctx ac) (tr.ctx ad))) _ _ (by first | assumption |(constructor <;> omega)) (by first | assumption |(constructor <;> omega))) ?_
 rintro _ _ ⟨e1,dg,rfl,rfl⟩
 refine Y.m .n ?_
 refine Y.as rfl .z (Y.nt (Y.seq (Y.region (Y.mv rfl .z (Y.ql rfl (bW rfl (.t .z) .c) (Y.nt ?_))))))
 refine Y.ac (.t .z) (fun j9=> ?_) (fun j9=> ?_)
 refine Y.seq (Y.region (Y.ql rfl (qW rfl bX (.t (.s16 (.s16 (.s16 (.s16 (.s16 .g10)))))) .g4 bA) (Y.mv rfl .g3 ?_)))
 refine Y.cl rfl rfl Tryz.func101 rfl rfl (aS (.t .g1) (.t .z)) .n (fun _ _ hs tr=>gP (aJ f (tr.ctx ac) (tr.ctx ad)) _) ?_
 rintro _ _ ⟨r2,r3,r4,r5,rfl,rfl⟩
 refine Y.m (.c (.c (.c (.c .n)))) ?_
 refine Y.h (WS.a .z) ?_
 rintro⟨pa,pb,rfl,ka,kb,kc⟩
 refine Y.h (WS.a .g1) ?_
 rintro⟨pc,pd,rfl,kd,ke,kf⟩
 refine Y.h (WS.a .g2) ?_
 rintro⟨pe,pf,rfl,kg,kh,ki⟩
 refine Y.h (WS.a .g3) ?_
 rintro⟨pg,ph,rfl,kj,kk,kl⟩
 refine Y.es (aE rfl) rfl (esW rfl (.t (.s16 (.s16 (.s16 (.s16 (.s16 .g12)))))) (.t .z) .g7 cA rfl rfl) ?_
 refine Y.nt (Y.ret (Y.j (Y.j ?_)))
 refine Y.i (cU rfl (.s16 (.s16 (.s16 (.s16 (.s16 .g12))))) eK .z cA) (.c .g1 (.c .g1 (.c .g1 (.c .g1 .n)))) ?_
 exact⟨(⟨0,e1,0,[],[],(⟨f.inodes,f.data⟩:DFs)⟩:dY),(by first | exact hj | assumption),_,_,_,_,rfl,rfl⟩
 refine Y.skip (Y.g (Y.region (Y.mv rfl (.s16 (.s16 (.s16 .g2))) (Y.mv rfl (.s16 .g7) ?_))))
 obtain⟨aq,dh,ca, -⟩:=mA (show¬eX (dE ((aO f q).2.1)) a0.ents= -1 by omega)
 refine Y.eq .z (congrArg (Value.int .i64) dh) ?_
 have ay:aq<(aG f.inodes ((aO f q).1)).length:=by rw [a6];exact ca
 have hFl:(iX f ((aO f q).1) aq).inodes.length=f.inodes.length:=zK
 refine Y.cl rfl rfl Tryz.func110 rfl rfl (eL (.t (.s16 (.s16 .g1))) (.t .g1) (.t .z)) (.c .z (.c .z (.c .z .n))) (fun _ _ hs tr=>aB1 (f:=f) _ _ hs (by assumption) (by first | assumption |(constructor <;> omega)) (by first | omega | assumption)) ?_
 rintro _ _ ⟨r6,r7,rfl,rfl⟩
 refine Y.m (.c (.c (.c .n))) ?_
 refine Y.h (WS.a .g1) ?_
 rintro⟨e2,e3,rfl,km,kn,ko⟩
 refine Y.h (WS.a .g2) ?_
 rintro⟨e4,e5,rfl,kp,kq,kr⟩
 refine Y.nil ?_
 have h6t:=kQ ht ((aO f q).1)
 obtain⟨i0,h9,ia, -⟩:=mA (show¬eX (dE ((aO f p).2.1)) bx.ents= -1 by omega)
 have ib:eX (dE ((aO f p).2.1)) (aG f.inodes ((aO f p).1))=(i0:Int):=by rw [ai];exact h9
 have ic:eT (aG f.inodes ((aO f p).1)) i0=ag.ino:=by rw [ai];exact mW (by first | exact ba |(rw [show i0=Int.toNat (eX (dE ((aO f p).2.1)) bx.ents) by omega];exact ba))
 have ef:eT (aG f.inodes ((aO f q).1)) aq=jt.ino:=by rw [a6];exact mW (by first | exact a7 |(rw [show aq=Int.toNat (eX (dE ((aO f q).2.1)) a0.ents) by omega];exact a7))
 have hst:=zV hj (by assumption) (by assumption) ib ay (by rw [ef,ic];first | assumption | omega) (by rw [ef];first | assumption | exact dg (by omega))
 have hsh:=tU (f:=f) (a:=((aO f q).1)) (i:=aq) (by omega) ay
 exact Y.ao (e2,e3,e4,e5,(iX f ((aO f q).1) aq)) ⟨by first | exact hj | exact jB hj _ _,by first | rfl | assumption,hst,by first | omega |(left;omega) |(right;omega)⟩ (.c (.s16 (.s16 .g2)) (.c (.s16 (.s16 (.s16 .g4))) (.c (.s16 (.s16 (.s16 .g5))) (.c (.s16 (.s16 (.s16 .g12))) (.c (.s16 (.s16 (.s16 (.s16 (.s16 .g4))))) (.c (.s16 (.s16 (.s16 (.s16 (.s16 .g5))))) (.c (.s16 (.s16 (.s16 (.s16 (.s16 .g12))))) .n))))))) (fun _ h=>h.sel (.c .z (.c .z (.c .z (.c .z (.c .z .n))))))
 have ks:=gB (dE ((aO f q).2.1)) a0.ents
 refine Y.seq (Y.region (Y.mv rfl (.s16 .g14) (Y.mv rfl (.s16 (.s16 (.s16 .g15))) (Y.ql rfl (bW rfl (.t .g1) (.t .z)) (Y.mv rfl .z ?_)))))
 refine Y.an .z (fun g228=> ?_) (fun g228=> ?_)
 refine Y.qg rfl rfl .z rfl rfl rfl (aN rfl (.t (.s16 (.s16 (.s16 (.s16 .g10))))) (fun _=>aP _ _)) ?_
 refine Y.qg rfl rfl .g1 rfl rfl rfl (aM rfl bR (.t .z) (WS.g .g4 rfl)) ?_
 refine Y.qg rfl rfl .g2 rfl rfl rfl (aR rfl (.t (.s16 (.s16 .g4)))) ?_
 refine Y.qg rfl rfl .g3 rfl rfl rfl (aB (j:=Int.toNat ((aO f q).1)) rfl cQ aT (.t .g1) (.t .z) (by omega) (by first | omega |(simp <;> omega))) ?_
 refine Y.qg rfl rfl .g4 rfl rfl rfl (aN rfl (.t .z) (fun _=>bL _ _)) ?_
 refine Y.qg rfl rfl .g5 rfl rfl rfl (aM rfl dX (.t .z) (WS.el a1 a2 rfl)) ?_
 refine Y.qg rfl rfl .g6 rfl rfl rfl (bD rfl dP (.t .z)) ?_
 refine Y.qg rfl rfl .g7 rfl rfl rfl (nH rfl (.t .z) .c) ?_
 refine Y.ql rfl (bI rfl (.t .g8) (.t .z)) (Y.nt ?_)
 refine Y.u (.t .z) (fun kt=> ?_) (fun kt=> ?_)
 refine Y.seq (Y.region (Y.ql rfl (qW rfl bX (.t (.s16 (.s16 (.s16 (.s16 (.s16 .g3)))))) .g4 bA) ?_))
 refine Y.cl rfl rfl Tryz.func101 rfl rfl (aS (.t .z) .c) .n (fun _ _ hs tr=>gP (aJ f (tr.ctx ac) (tr.ctx ad)) _) ?_
 rintro _ _ ⟨r8,r9,sa,sd,rfl,rfl⟩
 refine Y.m (.c (.c (.c (.c .n)))) ?_
 refine Y.h (WS.a .z) ?_
 rintro⟨pi,pj,rfl,ku,kv,kw⟩
 refine Y.h (WS.a .g1) ?_
 rintro⟨pk,pl,rfl,kx,ky,kz⟩
 refine Y.h (WS.a .g2) ?_
 rintro⟨pm,pn,rfl,k0,k1,k2⟩
 refine Y.h (WS.a .g3) ?_
 rintro⟨po,pp,rfl,k3,k4,k5⟩
 refine Y.es (aE rfl) rfl (esW rfl (.t (.s16 (.s16 (.s16 (.s16 (.s16 .g4)))))) (.t .z) .g7 cA rfl rfl) ?_
 refine Y.nt (Y.ret (Y.j ?_))
 refine Y.i (cU rfl (.s16 (.s16 (.s16 (.s16 (.s16 .g4))))) eK .z cA) (.c .g1 (.c .g1 (.c .g1 (.c .g1 .n)))) ?_
 exact⟨(⟨0,2,0,[],[],(⟨f.inodes,f.data⟩:DFs)⟩:dY),(by first | exact hj | assumption),_,_,_,_,rfl,rfl⟩
 refine Y.skip ?_
 have h6t:=kQ ht ((aO f q).1)
 have hst:0≤eX (dE ((aO f p).2.1)) (aG f.inodes ((aO f p).1)):=by rw [ai];omega
 have iu:=congrArg List.length ai;have iv:=congrArg List.length b0;have iw:=congrArg List.length a6
 exact Y.ao (ck,cm,cn,co,f) ⟨by first | exact hj | exact jB hj _ _,by first | rfl | assumption,hst,by first | omega |(left;omega) |(right;omega)⟩ (.c (.s16 .g8) (.c (.s16 (.s16 .g10)) (.c (.s16 (.s16 .g11)) (.c (.s16 (.s16 (.s16 .g2))) (.c (.s16 (.s16 (.s16 (.s16 .g10)))) (.c (.s16 (.s16 (.s16 (.s16 .g11)))) (.c (.s16 (.s16 (.s16 (.s16 (.s16 .g2))))) .n))))))) (fun _ h=>h.sel (.c .z (.c .z (.c .z (.c .z (.c .z .n))))))
 refine Y.r rfl rfl .z rfl rfl (by decide) rfl ?_
 refine Y.r rfl rfl .g1 rfl rfl (by decide) rfl ?_
 refine Y.r rfl rfl .g2 rfl rfl (by decide) rfl ?_
 refine Y.r rfl rfl .g3 rfl rfl (by decide) rfl ?_
 refine Y.r rfl rfl .g4 rfl rfl (by decide) rfl ?_
 refine Y.r rfl rfl .g5 rfl rfl (by decide) rfl ?_
 refine Y.r rfl rfl .g6 rfl rfl (by decide) rfl ?_
 refine Y.r rfl rfl .g7 rfl rfl (by decide) rfl ?_
 refine Y.ql rfl (bH rfl (.t .g8) .c) (Y.nt ?_)
 refine Y.ap (.t .z) ?_
 refine Y.skip ?_
 have h6t:=kQ ht ((aO f q).1)
 have hst:0≤eX (dE ((aO f p).2.1)) (aG f.inodes ((aO f p).1)):=by rw [ai];omega
 have iu:=congrArg List.length ai;have iv:=congrArg List.length b0;have iw:=congrArg List.length a6
 exact Y.ao (ck,cm,cn,co,f) ⟨by first | exact hj | exact jB hj _ _,by first | rfl | assumption,hst,by first | omega |(left;omega) |(right;omega)⟩ (.c (.s16 .g8) (.c (.s16 (.s16 .g10)) (.c (.s16 (.s16 .g11)) (.c (.s16 (.s16 (.s16 .g2))) (.c (.s16 (.s16 (.s16 (.s16 .g10)))) (.c (.s16 (.s16 (.s16 (.s16 .g11)))) (.c (.s16 (.s16 (.s16 (.s16 (.s16 .g2))))) .n))))))) (fun _ h=>h.sel (.c .z (.c .z (.c .z (.c .z (.c .z .n))))))
 rintro⟨aj,ah,ak,al,F⟩ ⟨hJF,hFl,hst,ix⟩
 refine Y.seq (Y.region (Y.mv rfl .g5 (Y.fa rfl .g1 aP (Y.ld rfl bR .z .z (Y.mv rfl .g8 ?_)))))
 refine Y.aa (.c .g1 .n) fP ?_
 rintro e7 a8
 obtain⟨az,ar⟩:=aK (xs:=F.inodes) (j:=Int.toNat ((aO f p).1)) (by first | omega |(simp <;> omega))
 obtain⟨se,bp⟩:=aK (xs:=e7) (j:=Int.toNat ((aO f p).1)) (by rw [a8];exact(List.getElem?_eq_some_iff.1 ar).1)
 refine Y.au .g1 (eJ ar bp) ?_
 refine Y.aa (.c .z .n) fC ?_
 rintro⟨sf,sg⟩ rfl
 refine Y.h (WS.a .z) ?_
 rintro⟨fb,fc,rfl,k6,k7,k8⟩
 refine Y.h (WS.a .g1) ?_
 rintro⟨fd,fe,rfl,k9,la,lb⟩
 have pq:=cO (i:=((aO f p).1)) ar (by omega)
 have cp:=cP (a:=((aO f p).1)) ar (by omega)
 have pr:=dL (a:=((aO f p).1)) ar (by omega)
 refine Y.h (WS.h .g4 (by first | omega |(simp <;> omega) |(simp only [List.length_append,List.length_cons,List.length_nil,List.length_set] at *;omega))) ?_
 rintro⟨ff,rfl⟩
 refine Y.ql rfl (aB (j:=Int.toNat ((aO f p).1)) rfl cQ aT (.t .g1) (.t .z) (by omega) (by first | omega |(simp <;> omega))) ?_
 refine Y.fa rfl .z bL (Y.ql rfl (aM rfl dX (.t .z) (WS.j .g4 bp rfl)) (Y.mv rfl .g11 ?_))
 refine Y.cl rfl rfl Tryz.func102 rfl rfl (aS (.t .g1) (.t .z)) .n (fun _ _ hs tr=>sD (tr.own .g1) _ (by first | assumption | omega |(dsimp only;omega))) ?_
 rintro _ _ ⟨rfl,rfl⟩
 refine Y.m .n ?_
 refine Y.ad (c:=aH cR az [.int .i64 az.kind,.int .i64 az.links,.int .i64 az.size,.slice fb az.blocks.length fc,.slice fd az.ents.length fe]) (.c .z (.c .z .n)) (fun w S h=>cZ az h) ?_
 refine Y.ad (c:=aH bJ F.inodes [.slice (some ff) F.inodes.length ah]) (.c .g3 (.c .z (.c .z (.c .z .n)))) (eM (K:=cR) a8 ar bp) ?_
 rw [cp] at hst
 obtain⟨af,di,cb, -⟩:=mA (show¬eX (dE ((aO f p).2.1)) az.ents= -1 by omega)
 refine Y.eq .z (congrArg (Value.int .i64) di) ?_
 have bq:af<(aG F.inodes ((aO f p).1)).length:=by rw [cp];exact cb
 have hrl:=aFi (F:=F) (d:=((aO f p).1)) (t:=((aO f q).1)) (i:=af) (by rw [hFl];assumption) (by rw [hFl];assumption) bq
 have hJG:Jf (dG F ((aO f p).1) (List.eraseIdx (aG F.inodes ((aO f p).1)) af)):=wL hJF
 have hGl:(dG F ((aO f p).1) (List.eraseIdx (aG F.inodes ((aO f p).1)) af)).inodes.length=f.inodes.length:=dF.trans hFl
 refine Y.cl rfl rfl Tryz.func113 rfl rfl (eL (.t .g9) (.t .g8) (.t .z)) (.c .g1 (.c .z (.c .z .n))) (fun _ _ hs tr=>aHb (f:=F) _ _ hs (by first | assumption |(constructor <;> omega)) (by omega)) ?_
 rintro _ _ ⟨sh,si,rfl,rfl⟩
 refine Y.m (.c (.c (.c .n))) ?_
 refine Y.h (WS.a .g1) ?_
 rintro⟨ps,cq,rfl,lc,lf,lg⟩
 refine Y.h (WS.a .g2) ?_
 rintro⟨fg,fh,rfl,lh,li,lj⟩
 refine Y.nt (Y.seq ?_)
 refine Y.aa (.c .g1 .n) fP ?_
 rintro cr a9
 obtain⟨ab,an⟩:=aK (xs:=(dG F ((aO f p).1) (List.eraseIdx (aG (F).inodes ((aO f p).1)) af)).inodes) (j:=Int.toNat ((aO f q).1)) (by first | omega |(simp <;> omega))
 obtain⟨sj,br⟩:=aK (xs:=cr) (j:=Int.toNat ((aO f q).1)) (by rw [a9];exact(List.getElem?_eq_some_iff.1 an).1)
 refine Y.au .g1 (eJ an br) ?_
 refine Y.aa (.c .z .n) fC ?_
 rintro⟨sm,sn⟩ rfl
 refine Y.h (WS.a .z) ?_
 rintro⟨ct,cu,rfl,lk,ll,lm⟩
 refine Y.h (WS.a .g1) ?_
 rintro⟨pt,pu,rfl,ln,lo,lp⟩
 have pv:=cO (i:=((aO f q).1)) an (by omega)
 have fi:=cP (a:=((aO f q).1)) an (by omega)
 have pw:=dL (a:=((aO f q).1)) an (by omega)
 have hyl:ab.ents.length≤5:=by have e8:=congrArg List.length fi;exact ix.elim (fun h5=>by first | omega |(simp only [dG] at *;omega)) (fun h5=>by have e9:=hrl.2 h5.1;first | omega |(simp only [dG] at *;omega))
 refine Y.sel (.c .z (.c .z (.c .g4 (.c .z (.c .z (.c .z (.c .z (.c .z (.c .z .n))))))))) ?_
 refine Y.dr .g3 15 fR ?_
 refine Y.sc (qs 0 12++ [(12,false),(13,false),(14,true),(15,false)]) (by kernel_rfl) ?_
 refine Y.df rfl rfl .g3 .g10 aP (Y.dl rfl rfl .g3 bR .z .g3 (Y.dm rfl rfl .g3 .g14 (Y.df rfl rfl .g3 .g13 aP (Y.dl rfl rfl .g3 bR .z .g3 (Y.dm rfl rfl .g3 (.s16 .g1) ?_)))))
 refine Y.h (WS.h .g5 (by first | omega |(simp <;> omega) |(simp only [List.length_append,List.length_cons,List.length_nil,List.length_set] at *;omega))) ?_
 rintro⟨cv,rfl⟩
 refine Y.dk rfl rfl .g3 (aB (j:=Int.toNat ((aO f q).1)) rfl cQ aT (.t .g1) (.t .z) (by omega) (by first | omega |(simp <;> omega))) ?_
 refine Y.df rfl rfl .g3 .z bL (Y.dk rfl rfl .g3 (aM rfl dX (.t .z) (WS.j .g2 br rfl)) (Y.dm rfl rfl .g3 (.s16 .g4) (Y.dm rfl rfl .g3 (.s16 .g7) (Y.dk rfl rfl .g3 (aW (cs:= [.string ((aO f q).2.1),.int .i64 ag.ino]) rfl uJ (pv2 (.t .g1) (.t .z)) rfl) ?_))))
 refine Y.call (aC rfl rfl) rfl (by decide) rfl (bE rfl Tryz.func114 rfl rfl (aS (.t .g3) (.t .z))) .n (fun _ _ hs tr=>aEd (tr.own .g1) (uW (⟨(aO f q).2.1,ag.ino⟩:bO) (by first | assumption | omega |(dsimp only;omega))) (by omega)) ?_
 rintro _ _ rfl
 refine Y.m (.c .n) ?_
 refine Y.h (WS.a .z) ?_
 rintro⟨bs,bt,rfl,lq,lr,ls⟩
 refine Y.sk .g4 ?_
 refine Y.q (aC rfl rfl) rfl (by decide) rfl (aB (j:=Int.toNat ((aO f q).1)) rfl cQ aT (.t .g11) (.t .g10) (by omega) (by first | omega |(simp <;> omega))) ?_
 refine Y.sk .g4 ?_
 refine Y.df rfl rfl .g4 .z bL ?_
 refine Y.es (aC rfl rfl) rfl (kU (j:=Int.toNat ((aO f q).1)) (off:=4) (cs:= [.slice bs (fZ ab.ents (⟨(aO f q).2.1,ag.ino⟩:bO)).length bt]) rfl qO (.t .z) (jA _ _ _) (.t .g2) rfl (pX rfl) .g6 br (Nat.le_of_ble_eq_true rfl)) ?_
 refine Y.ah (x':=List.set cr (Int.toNat ((aO f q).1)) [.int .i64 ab.kind,.int .i64 ab.links,.int .i64 ab.size,.slice ct ab.blocks.length cu,.slice bs (fZ ab.ents (⟨(aO f q).2.1,ag.ino⟩:bO)).length bt]) .z rfl ?_
 refine Y.sl rfl ?_
 refine Y.w ?_
 refine Y.af (by kernel_rfl) ?_
 refine Y.g (Y.seq (Y.region (Y.ql rfl (qW rfl bX (.t (.s16 .g9)) .g7 bA) (Y.ql rfl (aW (cs:= [.int .i64 0,.int .i64 0,.int .i64 0,.slice none 0 0,.slice none 0 0,.slice (some cv) ((dG F ((aO f p).1) (List.eraseIdx (aG (F).inodes ((aO f p).1)) af)).inodes).length cq,.slice fg ((dG F ((aO f p).1) (List.eraseIdx (aG (F).inodes ((aO f p).1)) af)).data).length fh]) rfl pB (pv1 (.t .z)) rfl) ?_))))
 refine Y.es (aE rfl) rfl (esW rfl (.t (.s16 (.s16 .g1))) (.t .z) .g8 cA rfl rfl) ?_
 refine Y.nt (Y.ret ?_)
 refine Y.ad (c:=aH cR (⟨ab.kind,ab.links,ab.size,ab.blocks,fZ ab.ents (⟨(aO f q).2.1,ag.ino⟩:bO)⟩:aF) [.int .i64 ab.kind,.int .i64 ab.links,.int .i64 ab.size,.slice ct ab.blocks.length cu,.slice bs (fZ ab.ents (⟨(aO f q).2.1,ag.ino⟩:bO)).length bt]) (.c .g3 (.c .g2 .n)) (fun w S h=>cZ (⟨ab.kind,ab.links,ab.size,ab.blocks,fZ ab.ents (⟨(aO f q).2.1,ag.ino⟩:bO)⟩:aF) h) ?_
 refine Y.ad (c:=aH bJ (List.set ((dG F ((aO f p).1) (List.eraseIdx (aG (F).inodes ((aO f p).1)) af)).inodes) (Int.toNat ((aO f q).1)) (⟨ab.kind,ab.links,ab.size,ab.blocks,fZ ab.ents (⟨(aO f q).2.1,ag.ino⟩:bO)⟩:aF)) [.slice (some cv) ((dG F ((aO f p).1) (List.eraseIdx (aG (F).inodes ((aO f p).1)) af)).inodes).length cq]) (.c .g2 (.c .z (.c .g3 (.c .g3 .n)))) (eU (K:=cR) a9 (List.getElem?_eq_some_iff.1 an).1 rfl) ?_
 refine Y.add (c:=aH dD [] [.slice none 0 0]) (fun w S=>aL w S none) ?_
 refine Y.add (c:=aH cT [] [.slice none 0 0]) (fun w S=>aL w S none) ?_
 refine Y.i (cU rfl (.s16 (.s16 .g1)) eK .g3 cA) (.c .g1 (.c .z (.c .z (.c .g2 .n)))) ?_
 exact⟨(⟨0,0,0,[],[],(⟨List.set ((dG F ((aO f p).1) (List.eraseIdx (aG (F).inodes ((aO f p).1)) af)).inodes) (Int.toNat ((aO f q).1)) (⟨ab.kind,ab.links,ab.size,ab.blocks,fZ ab.ents (⟨(aO f q).2.1,ag.ino⟩:bO)⟩:aF),(dG F ((aO f p).1) (List.eraseIdx (aG (F).inodes ((aO f p).1)) af)).data⟩:DFs)⟩:dY),(by first | exact hj | assumption | exact aG4 hJG an hyl (by rw [hGl];constructor <;>(dsimp only;omega)) (by dsimp only;omega)),_,_,_,_,rfl,rfl⟩

end Go.Proofs.YtmejbfmhaoilmaaGreatDoor

/- What is proved: contracts of functions, one a function. No condition. -/
import Derived.Test.YtmejbfmhaoilmaaGreatBase1
import Derived.Test.YtmejbfmhaoilmaaGreatW82
namespace Go.Proofs.YtmejbfmhaoilmaaGreat
open Go Go.RowKit
set_option linter.unusedVariables false
set_option linter.unusedSimpArgs false
set_option maxHeartbeats 1000000
set_option maxRecDepth 20000
theorem aL1 {w0:World}{S0:Bs}{f:DFs}{lv:List Value} (h0:eU.ro w0 (FF w0 S0) f lv) (p:ByteArray) (sp:p.size≤140737488351232) (q:ByteArray) (sq:q.size≤140737488351232) (hj:Jf f):
    Calls Tryz.prog 159 #[.agg lv.toArray,.string p,.string q] w0 (aJ w0 S0 (fun r l=>∃x:eJ,Jf x.fs∧sA x r l)):=by
 obtain⟨py,pz,rfl,ac,ad⟩:=cY h0
 obtain⟨dj,bu,rfl,lw,lx,ly,dp⟩:=aH ac
 obtain⟨bv,bw,rfl,lz,l1,l2,l3⟩:=aH ad
 have ht:J0 f:=hj.toJ0
 have sr:=hj.n.2
 have ss:=hj.n.1
 refine Y.enter (N:=156) Tryz.func159 rfl rfl (by simp) [(0,.agg #[.slice dj f.inodes.length bu,.slice bv f.data.length bw]),(1,.string p),(2,.string q)] (by simp) (l0:= []) trivial ?_
 refine Y.seq (Y.region ?_)
 refine Y.el rfl (fT (cs:= [.slice dj f.inodes.length bu,.slice bv f.data.length bw]) (n:=2) rfl (.t .z) rfl rfl) ?_
 rintro _ _ ⟨g3,rfl,rfl⟩
 refine Y.el rfl (bL rfl tP rfl rfl) ?_
 rintro _ _ ⟨g4,rfl,rfl⟩
 refine Y.nt (Y.seq (Y.region (Y.mv rfl .g3 ?_)))
 refine Y.cl rfl rfl Tryz.func171 rfl rfl (aX (.t .g2) (.t .z)) .n (fun _ _ hs tr=>yP (tr.ptr .g1 (aM f (tr.ctx ac) (tr.ctx ad))) _ (by first | assumption | omega |(dsimp only;omega)) (by assumption)) ?_
 rintro _ _ ⟨rfl,rfl⟩
 refine Y.m .n ?_
 have l4:=nR (f:=f) (s:=p)
 have l5:=lN ht p
 refine Y.mv rfl .z (Y.ql rfl (cC (v:= .int .i64 ((aT f p).1)) rfl (.t .z) rfl) (Y.ql rfl (cC (v:= .string ((aT f p).2.1)) rfl (.t .g1) rfl) (Y.ql rfl (cC (v:= .int .i64 ((aT f p).2.2)) rfl (.t .g2) rfl) (Y.as rfl .g2 (Y.as rfl .g2 (Y.as rfl .g2 (Y.nt ?_)))))))
 refine Y.seq (Y.seq (Y.region (Y.mv rfl .z (Y.ql rfl (cU rfl (.t .z) .c) (Y.nt ?_)))))
 refine Y.ad (.t .z) (fun b7=> ?_) (fun b7=> ?_)
 refine Y.seq (Y.region (Y.ql rfl (qW rfl bI (.t .g12) .g1 aW) (Y.mv rfl .g3 ?_)))
 refine Y.cl rfl rfl Tryz.func172 rfl rfl (aX (.t .g1) (.t .z)) .n (fun _ _ hs tr=>hU (aM f (tr.ctx ac) (tr.ctx ad)) _) ?_
 rintro _ _ ⟨v8,st,su,sv,rfl,rfl⟩
 refine Y.m (.c (.c (.c (.c .n)))) ?_
 refine Y.h (WS.a .z) ?_
 rintro⟨p0,p1,rfl,l6,l7,l8⟩
 refine Y.h (WS.a .g1) ?_
 rintro⟨p2,p3,rfl,l9,ma,mb⟩
 refine Y.h (WS.a .g2) ?_
 rintro⟨p4,p5,rfl,mc,md,me⟩
 refine Y.h (WS.a .g3) ?_
 rintro⟨p6,p7,rfl,mf,mg,mh⟩
 refine Y.es (aD rfl) rfl (esW rfl (.t .g14) (.t .z) .g4 bG rfl rfl) ?_
 refine Y.nt (Y.ret (Y.r ?_))
 refine Y.i (dD rfl .g14 dS .z bG) (.c .g1 (.c .g1 (.c .g1 (.c .g1 .n)))) ?_
 exact⟨(⟨0,((aT f p).2.2),0,[],[],(⟨f.inodes,f.data⟩:DFs)⟩:eJ),(by first | exact hj | assumption),_,_,_,_,rfl,rfl⟩
 refine Y.skip (Y.g (Y.seq (Y.region (Y.fa rfl .g12 aO (Y.ld rfl bK .z .g1 (Y.mv rfl .g6 ?_))))))
 obtain⟨ds,cw,au⟩:=dp (by omega)
 subst cw
 obtain⟨bx,bb⟩:=aI (xs:=f.inodes) (j:=Int.toNat ((aT f p).1)) (by first | omega |(simp <;> omega))
 obtain⟨mi,dt,cc,cd⟩:=au.elem bb
 obtain⟨ge,gf,rfl,cx,bc⟩:=cK dt
 obtain⟨gg,gh,rfl,fk,fl,fm,fn⟩:=aH cx
 obtain⟨gi,gj,rfl,fo,fp,fq,bz⟩:=aH bc
 have p8:=cH (i:=((aT f p).1)) bb (by omega)
 have ai:=cI (a:=((aT f p).1)) bb (by omega)
 have p9:=dC (a:=((aT f p).1)) bb (by omega)
 have du:=ht.get bb
 refine Y.ql rfl (aC (j:=Int.toNat ((aT f p).1)) rfl cE aU (.t .g1) (.t .z) (by omega) (by first | omega |(simp <;> omega))) ?_
 refine Y.fa rfl .z bE (Y.le rfl dP .z cc cd (Y.mv rfl .g9 ?_))
 refine Y.cl rfl rfl Tryz.func127 rfl rfl (aX (.t .g1) (.t .z)) .n (fun _ _ hs tr=>rJ (tr.ctx bc) _ (by first | assumption | omega |(dsimp only;omega))) ?_
 rintro _ _ ⟨rfl,rfl⟩
 refine Y.m .n ?_
 refine Y.as rfl .z (Y.nt (Y.seq (Y.seq (Y.region (Y.mv rfl .z (Y.ql rfl (dJ rfl (.t .z) .c) (Y.nil ?_)))))))
 refine Y.g ?_
 refine Y.u (.t .z) (fun qa=> ?_) (fun qa=> ?_)
 have mj:=gN (cA ((aT f p).2.1)) bx.ents
 refine Y.seq (Y.region (Y.ql rfl (qW rfl bI (.t (.s16 .g7)) .g1 aW) ?_))
 refine Y.cl rfl rfl Tryz.func172 rfl rfl (aX (.t .z) .c) .n (fun _ _ hs tr=>hU (aM f (tr.ctx ac) (tr.ctx ad)) _) ?_
 rintro _ _ ⟨sw,sx,sy,s0,rfl,rfl⟩
 refine Y.m (.c (.c (.c (.c .n)))) ?_
 refine Y.h (WS.a .z) ?_
 rintro⟨qb,qc,rfl,mk,ml,mm⟩
 refine Y.h (WS.a .g1) ?_
 rintro⟨qd,qe,rfl,mn,mo,mp⟩
 refine Y.h (WS.a .g2) ?_
 rintro⟨qf,qh,rfl,mq,mr,ms⟩
 refine Y.h (WS.a .g3) ?_
 rintro⟨qi,qj,rfl,mt,mu,mw⟩
 refine Y.es (aD rfl) rfl (esW rfl (.t (.s16 .g8)) (.t .z) .g4 bG rfl rfl) ?_
 refine Y.nt (Y.ret (Y.r ?_))
 refine Y.i (dD rfl (.s16 .g8) dS .z bG) (.c .g1 (.c .g1 (.c .g1 (.c .g1 .n)))) ?_
 exact⟨(⟨0,4,0,[],[],(⟨f.inodes,f.data⟩:DFs)⟩:eJ),(by first | exact hj | assumption),_,_,_,_,rfl,rfl⟩
 have mx:=gN (cA ((aT f p).2.1)) bx.ents
 refine Y.skip (Y.g (Y.seq (Y.region (Y.fa rfl (.s16 .g7) aO (Y.ld rfl bK .z .g1 (Y.mv rfl (.s16 .g1) ?_))))))
 refine Y.ql rfl (aC (j:=Int.toNat ((aT f p).1)) rfl cE aU (.t .g1) (.t .z) (by omega) (by first | omega |(simp <;> omega))) ?_
 refine Y.fa rfl .z bE (Y.le rfl dP .z cc cd (Y.mv rfl .g8 ?_))
 obtain⟨qk,cy,cz⟩:=bz (by omega)
 subst cy
 obtain⟨ag,ba⟩:=aI (xs:=bx.ents) (j:=Int.toNat (eS (cA ((aT f p).2.1)) bx.ents)) (by first | omega |(simp <;> omega))
 obtain⟨my,dv,dw,dx⟩:=cz.elem ba
 obtain⟨rfl,gk⟩:=eR dv
 have mz:=rZ du _ _ ba
 refine Y.ql rfl (aC (j:=Int.toNat (eS (cA ((aT f p).2.1)) bx.ents)) rfl cZ dV (.t .g1) (.t .z) (by omega) (by first | omega |(simp <;> omega))) ?_
 refine Y.fa rfl .z iX (Y.le rfl cF .z dw dx (Y.as rfl .z (Y.nt (Y.seq (Y.region (Y.mv rfl (.s16 (.s16 .g5)) ?_))))))
 refine Y.cl rfl rfl Tryz.func171 rfl rfl (aX (.t (.s16 (.s16 .g3))) (.t .z)) .n (fun _ _ hs tr=>yP (tr.ptr .g1 (aM f (tr.ctx ac) (tr.ctx ad))) _ (by first | assumption | omega |(dsimp only;omega)) (by assumption)) ?_
 rintro _ _ ⟨rfl,rfl⟩
 refine Y.m .n ?_
 have gl:=nR (f:=f) (s:=q)
 have gm:=lN ht q
 refine Y.mv rfl .z (Y.ql rfl (cC (v:= .int .i64 ((aT f q).1)) rfl (.t .z) rfl) (Y.ql rfl (cC (v:= .string ((aT f q).2.1)) rfl (.t .g1) rfl) (Y.ql rfl (cC (v:= .int .i64 ((aT f q).2.2)) rfl (.t .g2) rfl) (Y.as rfl .g2 (Y.as rfl .g2 (Y.er (.s16 .g16) (Y.as rfl .g2 (Y.nil ?_))))))))
 refine Y.g (Y.seq (Y.seq (Y.region (Y.mv rfl .z (Y.ql rfl (cU rfl (.t .z) .c) (Y.nt ?_))))))
 refine Y.ad (.t .z) (fun qm=> ?_) (fun qm=> ?_)
 refine Y.seq (Y.region (Y.ql rfl (qW rfl bI (.t (.s16 (.s16 .g12))) .g1 aW) (Y.mv rfl .g3 ?_)))
 refine Y.cl rfl rfl Tryz.func172 rfl rfl (aX (.t .g1) (.t .z)) .n (fun _ _ hs tr=>hU (aM f (tr.ctx ac) (tr.ctx ad)) _) ?_
 rintro _ _ ⟨s1,s2,s3,s4,rfl,rfl⟩
 refine Y.m (.c (.c (.c (.c .n)))) ?_
 refine Y.h (WS.a .z) ?_
 rintro⟨qn,qo,rfl,m0,m1,m2⟩
 refine Y.h (WS.a .g1) ?_
 rintro⟨qp,qq,rfl,m3,m4,m5⟩
 refine Y.h (WS.a .g2) ?_
 rintro⟨qr,qt,rfl,m6,m7,m8⟩
 refine Y.h (WS.a .g3) ?_
 rintro⟨qu,qv,rfl,m9,na,nb⟩
 refine Y.es (aD rfl) rfl (esW rfl (.t (.s16 (.s16 .g14))) (.t .z) .g4 bG rfl rfl) ?_
 refine Y.nt (Y.ret (Y.r ?_))
 refine Y.i (dD rfl (.s16 (.s16 .g14)) dS .z bG) (.c .g1 (.c .g1 (.c .g1 (.c .g1 .n)))) ?_
 exact⟨(⟨0,((aT f q).2.2),0,[],[],(⟨f.inodes,f.data⟩:DFs)⟩:eJ),(by first | exact hj | assumption),_,_,_,_,rfl,rfl⟩
 refine Y.skip (Y.g (Y.seq (Y.seq (Y.region (Y.fa rfl (.s16 (.s16 .g12)) aO (Y.ld rfl bK .z .g1 (Y.mv rfl .g13 ?_)))))))
 obtain⟨s5,bd⟩:=aI (xs:=f.inodes) (j:=Int.toNat ag.ino) (by first | omega |(simp <;> omega))
 obtain⟨nd,dy,dz,d0⟩:=au.elem bd
 obtain⟨gn,go,rfl,c0,c1⟩:=cK dy
 obtain⟨gp,gq,rfl,fr,ft,fu,fv⟩:=aH c0
 obtain⟨gr,gs,rfl,fw,fx,fy,fz⟩:=aH c1
 have qw:=cH (i:=ag.ino) bd (by omega)
 have b0:=cI (a:=ag.ino) bd (by omega)
 have qx:=dC (a:=ag.ino) bd (by omega)
 have ne:=ht.get bd
 refine Y.ql rfl (aC (j:=Int.toNat ag.ino) rfl cE aU (.t .g1) (.t .z) (by omega) (by first | omega |(simp <;> omega))) ?_
 refine Y.fa rfl .z cV (Y.le rfl cF .z dz d0 (Y.ql rfl (bZ rfl (.t .z) .c) (Y.mv rfl .z ?_)))
 refine Y.al .z (fun g62=> ?_) (fun g62=> ?_)
 refine Y.qg rfl rfl .z rfl rfl rfl (aV rfl (.t .g12)) ?_
 refine Y.qg rfl rfl .g1 rfl rfl rfl (aV rfl (.t (.s16 .g4))) ?_
 refine Y.call (fU rfl rfl .g2) rfl (by decide) rfl (bS rfl Tryz.func176 rfl rfl (oT (.t (.s16 (.s16 (.s16 .g6)))) (.t .g1) (.t .z) .c)) .n (fun _ _ hs tr=>aKy (tr.ptr .g1 (aM f (tr.ctx ac) (tr.ctx ad))) _ _ _ (by assumption) (by first | assumption |(constructor <;> omega)) 10 (by omega) (by omega)) ?_
 rintro _ _ ⟨rfl,rfl⟩
 refine Y.m .n ?_
 refine Y.ql rfl (bO rfl (.t .g3) (.t .z)) (Y.nt ?_)
 refine Y.cond (.t .z) (fun qy=> ?_) (fun qy=> ?_)
 refine Y.seq (Y.region (Y.ql rfl (qW rfl bI (.t (.s16 (.s16 (.s16 .g8)))) .g1 aW) ?_))
 refine Y.cl rfl rfl Tryz.func172 rfl rfl (aX (.t .z) .c) .n (fun _ _ hs tr=>hU (aM f (tr.ctx ac) (tr.ctx ad)) _) ?_
 rintro _ _ ⟨s6,s7,s8,s9,rfl,rfl⟩
 refine Y.m (.c (.c (.c (.c .n)))) ?_
 refine Y.h (WS.a .z) ?_
 rintro⟨qz,q0,rfl,nf,ng,nh⟩
 refine Y.h (WS.a .g1) ?_
 rintro⟨q1,q2,rfl,ni,nj,nk⟩
 refine Y.h (WS.a .g2) ?_
 rintro⟨q3,q4,rfl,nl,nm,nn⟩
 refine Y.h (WS.a .g3) ?_
 rintro⟨q5,q6,rfl,no,np,nq⟩
 refine Y.es (aD rfl) rfl (esW rfl (.t (.s16 (.s16 (.s16 .g9)))) (.t .z) .g4 bG rfl rfl) ?_
 refine Y.nt (Y.ret (Y.r ?_))
 refine Y.i (dD rfl (.s16 (.s16 (.s16 .g9))) dS .z bG) (.c .g1 (.c .g1 (.c .g1 (.c .g1 .n)))) ?_
 exact⟨(⟨0,1,0,[],[],(⟨f.inodes,f.data⟩:DFs)⟩:eJ),(by first | exact hj | assumption),_,_,_,_,rfl,rfl⟩
 refine Y.skip (Y.g (Y.seq (Y.region (Y.ql rfl (qW rfl bI (.t (.s16 (.s16 (.s16 .g8)))) .g1 aW) ?_))))
 refine Y.cl rfl rfl Tryz.func67 rfl rfl (bT (.t .z)) .n (fun _ _ hs tr=>vJ (aM f (tr.ctx ac) (tr.ctx ad))) ?_
 rintro _ _ ⟨ta,tb,rfl,rfl⟩
 refine Y.m (.c (.c .n)) ?_
 refine Y.h (WS.a .z) ?_
 rintro⟨d1,d2,rfl,nr,ns,nu⟩
 refine Y.h (WS.a .g1) ?_
 rintro⟨d3,d4,rfl,nv,nw,nx⟩
 refine Y.el rfl (bL rfl nF rfl rfl) ?_
 rintro _ _ ⟨g82,rfl,rfl⟩
 refine Y.es (aD rfl) rfl (esW rfl (.t .z) (.t .g1) .z aW rfl rfl) ?_
 refine Y.nt (Y.seq (Y.region (Y.fa rfl (.s16 (.s16 (.s16 .g11))) aO (Y.ld rfl bK .z .g4 (Y.mv rfl (.s16 .g5) ?_)))))
 obtain⟨c2,be⟩:=aI (xs:=f.inodes) (j:=Int.toNat ((aT f q).1)) (by first | omega |(simp <;> omega))
 obtain⟨ny,d5,bf,bg⟩:=au.elem be
 obtain⟨gt,gu,rfl,c3,bh⟩:=cK d5
 obtain⟨gv,gw,rfl,f0,f1,f2,f3⟩:=aH c3
 obtain⟨gx,gy,rfl,f4,f5,f6,b1⟩:=aH bh
 have q7:=cH (i:=((aT f q).1)) be (by omega)
 have b2:=cI (a:=((aT f q).1)) be (by omega)
 have q8:=dC (a:=((aT f q).1)) be (by omega)
 have d6:=ht.get be
 refine Y.ql rfl (aC (j:=Int.toNat ((aT f q).1)) rfl cE aU (.t .g1) (.t .z) (by omega) (by first | omega |(simp <;> omega))) ?_
 refine Y.fa rfl .z bE (Y.le rfl dP .z bf bg (Y.mv rfl (.s16 .g8) ?_))
 refine Y.cl rfl rfl Tryz.func127 rfl rfl (aX (.t .g1) (.t .z)) .n (fun _ _ hs tr=>rJ (tr.ctx bh) _ (by first | assumption | omega |(dsimp only;omega))) ?_
 rintro _ _ ⟨rfl,rfl⟩
 refine Y.m .n ?_
 refine Y.as rfl .z (Y.nt ?_)
 refine Y.ay (γ:=(Option Addr)×Nat×(Option Addr)×Nat×DFs) (fun⟨aj,ah,ak,al,F⟩=> [(14,.pointer (some ⟨g82,0,none⟩)),(13,.string ((aT f q).2.1)),(12,.int .i64 ((aT f q).1)),(11,.int .i64 ag.ino),(8,.string ((aT f p).2.1)),(7,.int .i64 ((aT f p).1)),(6,.pointer (some ⟨g4,0,none⟩))]) (fun⟨aj,ah,ak,al,F⟩=> [cM g82 27 2 1 [.slice aj F.inodes.length ah,.slice ak F.data.length al],aG aP F.inodes [.slice aj F.inodes.length ah],aG cG F.data [.slice ak F.data.length al],cM g4 155 7 1 [.int .i64 0,.int .i64 0,.int .i64 0,.slice none 0 0,.slice none 0 0,.slice none 0 0,.slice none 0 0],cM g3 27 2 1 [.slice (some ds) f.inodes.length bu,.slice bv f.data.length bw]]) (fun⟨aj,ah,ak,al,F⟩=>Jf F∧F.inodes.length=f.inodes.length∧0≤eS (cA ((aT f p).2.1)) (aB F.inodes ((aT f p).1))∧((aB F.inodes ((aT f q).1)).length≤5∨(((aT f q).1)=((aT f p).1)∧(aB F.inodes ((aT f q).1)).length≤6))) ?_ ?_
 refine Y.seq (Y.region (Y.mv rfl .z (Y.ql rfl (lU rfl (.t .z) .c) (Y.nt ?_))))
 refine Y.u (.t .z) (fun q9=> ?_) (fun q9=> ?_)
 have nz:=gN (cA ((aT f q).2.1)) c2.ents
 refine Y.seq (Y.region (Y.ql rfl (aK rfl (.t (.s16 (.s16 (.s16 (.s16 .g6))))) (fun _=>aO _ _)) (Y.ld rfl bK .z .g4 (Y.mv rfl (.s16 .g16) ?_))))
 refine Y.ql rfl (aC (j:=Int.toNat ((aT f q).1)) rfl cE aU (.t .g1) (.t .z) (by omega) (by first | omega |(simp <;> omega))) ?_
 refine Y.fa rfl .z bE (Y.le rfl dP .z bf bg (Y.mv rfl .g8 ?_))
 obtain⟨ra,c4,c5⟩:=b1 (by omega)
 subst c4
 obtain⟨rb,b3⟩:=aI (xs:=c2.ents) (j:=Int.toNat (eS (cA ((aT f q).2.1)) c2.ents)) (by first | omega |(simp <;> omega))
 obtain⟨n0,d7,d8,d9⟩:=c5.elem b3
 obtain⟨rfl,gz⟩:=eR d7
 have n1:=rZ d6 _ _ b3
 refine Y.ql rfl (aC (j:=Int.toNat (eS (cA ((aT f q).2.1)) c2.ents)) rfl cZ dV (.t .g1) (.t .z) (by omega) (by first | omega |(simp <;> omega))) ?_
 refine Y.fa rfl .z iX (Y.le rfl cF .z d8 d9 (Y.as rfl .z (Y.nt (Y.seq (Y.seq (Y.region (Y.mv rfl .z ?_)))))))
 refine Y.mv rfl (.s16 (.s16 (.s16 .g1))) (Y.ql rfl (bZ rfl (.t .g1) (.t .z)) (Y.nt ?_))
 refine Y.u (.t .z) (fun rc=> ?_) (fun rc=> ?_)
 refine Y.seq (Y.region (Y.ql rfl (qW rfl bI (.t (.s16 (.s16 (.s16 (.s16 (.s16 .g4)))))) .g4 aW) ?_))
 refine Y.cl rfl rfl Tryz.func172 rfl rfl (aX (.t .z) .c) .n (fun _ _ hs tr=>hU (aM f (tr.ctx ac) (tr.ctx ad)) _) ?_
 rintro _ _ ⟨tc,td,te,tf,rfl,rfl⟩
 refine Y.m (.c (.c (.c (.c .n)))) ?_
 refine Y.h (WS.a .z) ?_
 rintro⟨n2,n3,rfl,g0,ha,hb⟩
 refine Y.h (WS.a .g1) ?_
 rintro⟨n4,n5,rfl,hc,hd,he⟩
 refine Y.h (WS.a .g2) ?_
 rintro⟨n6,n7,rfl,hf,hg,hh⟩
 refine Y.h (WS.a .g3) ?_
 rintro⟨n8,n9,rfl,hi,hk,hl⟩
 refine Y.es (aD rfl) rfl (esW rfl (.t (.s16 (.s16 (.s16 (.s16 (.s16 .g5)))))) (.t .z) .g7 bG rfl rfl) ?_
 refine Y.nt (Y.ret (Y.r (Y.r ?_)))
 refine Y.i (dD rfl (.s16 (.s16 (.s16 (.s16 (.s16 .g5))))) dS .z bG) (.c .g1 (.c .g1 (.c .g1 (.c .g1 .n)))) ?_
 exact⟨(⟨0,0,0,[],[],(⟨f.inodes,f.data⟩:DFs)⟩:eJ),(by first | exact hj | assumption),_,_,_,_,rfl,rfl⟩
 refine Y.skip (Y.g (Y.seq (Y.seq (Y.region (Y.mv rfl (.s16 (.s16 (.s16 .g3))) (Y.mv rfl .g4 ?_))))))
 refine Y.cl rfl rfl Tryz.func177 rfl rfl (dX (.t (.s16 (.s16 (.s16 (.s16 (.s16 .g6)))))) (.t .g1) (.t .z)) .n (fun _ _ hs tr=>aJv (tr.ptr .g4 (aM f (tr.ctx ac) (tr.ctx ad))) _ _ (by first | assumption |(constructor <;> omega)) (by first | assumption |(constructor <;> omega))) ?_
 rintro _ _ ⟨ea,c6,rfl,rfl⟩
 refine Y.m .n ?_
 refine Y.as rfl .z (Y.nt (Y.seq (Y.region (Y.mv rfl .z (Y.ql rfl (cU rfl (.t .z) .c) (Y.nt ?_))))))
 refine Y.ad (.t .z) (fun hm=> ?_) (fun hm=> ?_)
 refine Y.seq (Y.region (Y.ql rfl (qW rfl bI (.t (.s16 (.s16 (.s16 (.s16 (.s16 .g10)))))) .g4 aW) (Y.mv rfl .g3 ?_)))
 refine Y.cl rfl rfl Tryz.func172 rfl rfl (aX (.t .g1) (.t .z)) .n (fun _ _ hs tr=>hU (aM f (tr.ctx ac) (tr.ctx ad)) _) ?_
 rintro _ _ ⟨rd,re,rf,rg,rfl,rfl⟩
 refine Y.m (.c (.c (.c (.c .n)))) ?_
 refine Y.h (WS.a .z) ?_
 rintro⟨oa,ob,rfl,hn,ho,hp⟩
 refine Y.h (WS.a .g1) ?_
 rintro⟨oc,od,rfl,hq,hr,hu⟩
 refine Y.h (WS.a .g2) ?_
 rintro⟨oe,og,rfl,hv,hw,hx⟩
 refine Y.h (WS.a .g3) ?_
 rintro⟨oh,oi,rfl,hy,hz,h1⟩
 refine Y.es (aD rfl) rfl (esW rfl (.t (.s16 (.s16 (.s16 (.s16 (.s16 .g12)))))) (.t .z) .g7 bG rfl rfl) ?_
 refine Y.nt (Y.ret (Y.r (Y.r ?_)))
 refine Y.i (dD rfl (.s16 (.s16 (.s16 (.s16 (.s16 .g12))))) dS .z bG) (.c .g1 (.c .g1 (.c .g1 (.c .g1 .n)))) ?_
 exact⟨(⟨0,ea,0,[],[],(⟨f.inodes,f.data⟩:DFs)⟩:eJ),(by first | exact hj | assumption),_,_,_,_,rfl,rfl⟩
 refine Y.skip (Y.g (Y.region (Y.mv rfl (.s16 (.s16 (.s16 .g2))) (Y.mv rfl (.s16 .g7) ?_))))
 obtain⟨ao,c7,b4, -⟩:=kN (show¬eS (cA ((aT f q).2.1)) c2.ents= -1 by omega)
 refine Y.eq .z (congrArg (Value.int .i64) c7) ?_
 have av:ao<(aB f.inodes ((aT f q).1)).length:=by rw [b2];exact b4
 have hFl:(jF f ((aT f q).1) ao).inodes.length=f.inodes.length:=zC
 refine Y.cl rfl rfl Tryz.func175 rfl rfl (dX (.t (.s16 (.s16 .g1))) (.t .g1) (.t .z)) (.c .z (.c .z (.c .z .n))) (fun _ _ hs tr=>aB2 (f:=f) _ _ hs (by assumption) (by first | assumption |(constructor <;> omega)) (by first | omega | assumption)) ?_
 rintro _ _ ⟨rh,ri,rfl,rfl⟩
 refine Y.m (.c (.c (.c .n))) ?_
 refine Y.h (WS.a .g1) ?_
 rintro⟨eb,ec,rfl,h2,h3,h4⟩
 refine Y.h (WS.a .g2) ?_
 rintro⟨ed,ee,rfl,h6,h7,h8⟩
 refine Y.nil ?_
 have h6t:=kJ ht ((aT f q).1)
 obtain⟨i0,h9,ia, -⟩:=kN (show¬eS (cA ((aT f p).2.1)) bx.ents= -1 by omega)
 have ib:eS (cA ((aT f p).2.1)) (aB f.inodes ((aT f p).1))=(i0:Int):=by rw [ai];exact h9
 have ic:eY (aB f.inodes ((aT f p).1)) i0=ag.ino:=by rw [ai];exact mZ (by first | exact ba |(rw [show i0=Int.toNat (eS (cA ((aT f p).2.1)) bx.ents) by omega];exact ba))
 have ef:eY (aB f.inodes ((aT f q).1)) ao=rb.ino:=by rw [b2];exact mZ (by first | exact b3 |(rw [show ao=Int.toNat (eS (cA ((aT f q).2.1)) c2.ents) by omega];exact b3))
 have hst:=zE hj (by assumption) (by assumption) ib av (by rw [ef,ic];first | assumption | omega) (by rw [ef];first | assumption | exact c6 (by omega))
 have hsh:=uU (f:=f) (a:=((aT f q).1)) (i:=ao) (by omega) av
 exact Y.aq (eb,ec,ed,ee,(jF f ((aT f q).1) ao)) ⟨by first | exact hj | exact jH hj _ _,by first | rfl | assumption,hst,by first | omega |(left;omega) |(right;omega)⟩ (.c (.s16 (.s16 .g2)) (.c (.s16 (.s16 (.s16 .g4))) (.c (.s16 (.s16 (.s16 .g5))) (.c (.s16 (.s16 (.s16 .g12))) (.c (.s16 (.s16 (.s16 (.s16 (.s16 .g4))))) (.c (.s16 (.s16 (.s16 (.s16 (.s16 .g5))))) (.c (.s16 (.s16 (.s16 (.s16 (.s16 .g12))))) .n))))))) (fun _ h=>h.sel (.c .z (.c .z (.c .z (.c .z (.c .z .n))))))
 have id:=gN (cA ((aT f q).2.1)) c2.ents
 refine Y.seq (Y.region (Y.mv rfl (.s16 .g14) (Y.mv rfl (.s16 (.s16 (.s16 .g15))) (Y.ql rfl (cU rfl (.t .g1) (.t .z)) (Y.mv rfl .z ?_)))))
 refine Y.ap .z (fun g127=> ?_) (fun g127=> ?_)
 refine Y.qg rfl rfl .z rfl rfl rfl (aK rfl (.t (.s16 (.s16 (.s16 (.s16 .g10))))) (fun _=>aO _ _)) ?_
 refine Y.qg rfl rfl .g1 rfl rfl rfl (aL rfl bK (.t .z) (WS.g .g4 rfl)) ?_
 refine Y.qg rfl rfl .g2 rfl rfl rfl (aV rfl (.t (.s16 (.s16 .g4)))) ?_
 refine Y.qg rfl rfl .g3 rfl rfl rfl (aC (j:=Int.toNat ((aT f q).1)) rfl cE aU (.t .g1) (.t .z) (by omega) (by first | omega |(simp <;> omega))) ?_
 refine Y.qg rfl rfl .g4 rfl rfl rfl (aK rfl (.t .z) (fun _=>bE _ _)) ?_
 refine Y.qg rfl rfl .g5 rfl rfl rfl (aL rfl dP (.t .z) (WS.el bf bg rfl)) ?_
 refine Y.qg rfl rfl .g6 rfl rfl rfl (bM rfl cZ (.t .z)) ?_
 refine Y.qg rfl rfl .g7 rfl rfl rfl (lU rfl (.t .z) .c) ?_
 refine Y.ql rfl (bO rfl (.t .g8) (.t .z)) (Y.nt ?_)
 refine Y.u (.t .z) (fun ie=> ?_) (fun ie=> ?_)
 refine Y.seq (Y.region (Y.ql rfl (qW rfl bI (.t (.s16 (.s16 (.s16 (.s16 (.s16 .g3)))))) .g4 aW) ?_))
 refine Y.cl rfl rfl Tryz.func172 rfl rfl (aX (.t .z) .c) .n (fun _ _ hs tr=>hU (aM f (tr.ctx ac) (tr.ctx ad)) _) ?_
 rintro _ _ ⟨rj,rk,rl,rm,rfl,rfl⟩
 refine Y.m (.c (.c (.c (.c .n)))) ?_
 refine Y.h (WS.a .z) ?_
 rintro⟨oj,ok,rfl,ig,ih,ii⟩
 refine Y.h (WS.a .g1) ?_
 rintro⟨ol,om,rfl,ij,ik,il⟩
 refine Y.h (WS.a .g2) ?_
 rintro⟨on,oo,rfl,im,io,ip⟩
 refine Y.h (WS.a .g3) ?_
 rintro⟨op,oq,rfl,iq,ir,it⟩
 refine Y.es (aD rfl) rfl (esW rfl (.t (.s16 (.s16 (.s16 (.s16 (.s16 .g4)))))) (.t .z) .g7 bG rfl rfl) ?_
 refine Y.nt (Y.ret (Y.r ?_))
 refine Y.i (dD rfl (.s16 (.s16 (.s16 (.s16 (.s16 .g4))))) dS .z bG) (.c .g1 (.c .g1 (.c .g1 (.c .g1 .n)))) ?_
 exact⟨(⟨0,2,0,[],[],(⟨f.inodes,f.data⟩:DFs)⟩:eJ),(by first | exact hj | assumption),_,_,_,_,rfl,rfl⟩
 refine Y.skip ?_
 have h6t:=kJ ht ((aT f q).1)
 have hst:0≤eS (cA ((aT f p).2.1)) (aB f.inodes ((aT f p).1)):=by rw [ai];omega
 have iu:=congrArg List.length ai;have iv:=congrArg List.length b0;have iw:=congrArg List.length b2
 exact Y.aq (d1,d2,d3,d4,f) ⟨by first | exact hj | exact jH hj _ _,by first | rfl | assumption,hst,by first | omega |(left;omega) |(right;omega)⟩ (.c (.s16 .g8) (.c (.s16 (.s16 .g10)) (.c (.s16 (.s16 .g11)) (.c (.s16 (.s16 (.s16 .g2))) (.c (.s16 (.s16 (.s16 (.s16 .g10)))) (.c (.s16 (.s16 (.s16 (.s16 .g11)))) (.c (.s16 (.s16 (.s16 (.s16 (.s16 .g2))))) .n))))))) (fun _ h=>h.sel (.c .z (.c .z (.c .z (.c .z (.c .z .n))))))
 refine Y.j rfl rfl .z rfl rfl (by decide) rfl ?_
 refine Y.j rfl rfl .g1 rfl rfl (by decide) rfl ?_
 refine Y.j rfl rfl .g2 rfl rfl (by decide) rfl ?_
 refine Y.j rfl rfl .g3 rfl rfl (by decide) rfl ?_
 refine Y.j rfl rfl .g4 rfl rfl (by decide) rfl ?_
 refine Y.j rfl rfl .g5 rfl rfl (by decide) rfl ?_
 refine Y.j rfl rfl .g6 rfl rfl (by decide) rfl ?_
 refine Y.j rfl rfl .g7 rfl rfl (by decide) rfl ?_
 refine Y.ql rfl (bW rfl (.t .g8) .c) (Y.nt ?_)
 refine Y.ar (.t .z) ?_
 refine Y.skip ?_
 have h6t:=kJ ht ((aT f q).1)
 have hst:0≤eS (cA ((aT f p).2.1)) (aB f.inodes ((aT f p).1)):=by rw [ai];omega
 have iu:=congrArg List.length ai;have iv:=congrArg List.length b0;have iw:=congrArg List.length b2
 exact Y.aq (d1,d2,d3,d4,f) ⟨by first | exact hj | exact jH hj _ _,by first | rfl | assumption,hst,by first | omega |(left;omega) |(right;omega)⟩ (.c (.s16 .g8) (.c (.s16 (.s16 .g10)) (.c (.s16 (.s16 .g11)) (.c (.s16 (.s16 (.s16 .g2))) (.c (.s16 (.s16 (.s16 (.s16 .g10)))) (.c (.s16 (.s16 (.s16 (.s16 .g11)))) (.c (.s16 (.s16 (.s16 (.s16 (.s16 .g2))))) .n))))))) (fun _ h=>h.sel (.c .z (.c .z (.c .z (.c .z (.c .z .n))))))
 rintro⟨aj,ah,ak,al,F⟩ ⟨hJF,hFl,hst,ix⟩
 refine Y.seq (Y.region (Y.mv rfl .g5 (Y.fa rfl .g1 aO (Y.ld rfl bK .z .z (Y.mv rfl .g8 ?_)))))
 refine Y.w (.c .g1 .n) eC ?_
 rintro eg a3
 obtain⟨aw,ap⟩:=aI (xs:=F.inodes) (j:=Int.toNat ((aT f p).1)) (by first | omega |(simp <;> omega))
 obtain⟨rn,bi⟩:=aI (xs:=eg) (j:=Int.toNat ((aT f p).1)) (by rw [a3];exact(List.getElem?_eq_some_iff.1 ap).1)
 refine Y.an .g1 (cW ap bi) ?_
 refine Y.w (.c .z .n) dR ?_
 rintro⟨rp,rq⟩ rfl
 refine Y.h (WS.a .z) ?_
 rintro⟨eh,ei,rfl,iy,iz,i1⟩
 refine Y.h (WS.a .g1) ?_
 rintro⟨ej,ek,rfl,i2,i3,i4⟩
 have ot:=cH (i:=((aT f p).1)) ap (by omega)
 have ce:=cI (a:=((aT f p).1)) ap (by omega)
 have ou:=dC (a:=((aT f p).1)) ap (by omega)
 refine Y.h (WS.i .g4 (by first | omega |(simp <;> omega) |(simp only [List.length_append,List.length_cons,List.length_nil,List.length_set] at *;omega))) ?_
 rintro⟨em,rfl⟩
 refine Y.ql rfl (aC (j:=Int.toNat ((aT f p).1)) rfl cE aU (.t .g1) (.t .z) (by omega) (by first | omega |(simp <;> omega))) ?_
 refine Y.fa rfl .z bE (Y.ql rfl (aL rfl dP (.t .z) (WS.h .g4 bi rfl)) (Y.mv rfl .g11 ?_))
 refine Y.cl rfl rfl Tryz.func127 rfl rfl (aX (.t .g1) (.t .z)) .n (fun _ _ hs tr=>rJ (tr.own .g1) _ (by first | assumption | omega |(dsimp only;omega))) ?_
 rintro _ _ ⟨rfl,rfl⟩
 refine Y.m .n ?_
 refine Y.v (c:=aG bD aw [.int .i64 aw.kind,.int .i64 aw.links,.int .i64 aw.size,.slice eh aw.blocks.length ei,.slice ej aw.ents.length ek]) (.c .z (.c .z .n)) (fun w S h=>bF aw h) ?_
 refine Y.v (c:=aG aP F.inodes [.slice (some em) F.inodes.length ah]) (.c .g3 (.c .z (.c .z (.c .z .n)))) (bU (K:=bD) a3 ap bi) ?_
 rw [ce] at hst
 obtain⟨ae,c8,b5, -⟩:=kN (show¬eS (cA ((aT f p).2.1)) aw.ents= -1 by omega)
 refine Y.eq .z (congrArg (Value.int .i64) c8) ?_
 have bj:ae<(aB F.inodes ((aT f p).1)).length:=by rw [ce];exact b5
 have hrl:=aEo (F:=F) (d:=((aT f p).1)) (t:=((aT f q).1)) (i:=ae) (by rw [hFl];assumption) (by rw [hFl];assumption) bj
 have hJG:Jf (bH F ((aT f p).1) (List.eraseIdx (aB F.inodes ((aT f p).1)) ae)):=wK hJF
 have hGl:(bH F ((aT f p).1) (List.eraseIdx (aB F.inodes ((aT f p).1)) ae)).inodes.length=f.inodes.length:=bB.trans hFl
 refine Y.cl rfl rfl Tryz.func178 rfl rfl (dX (.t .g9) (.t .g8) (.t .z)) (.c .g1 (.c .z (.c .z .n))) (fun _ _ hs tr=>aHz (f:=F) _ _ hs (by first | assumption |(constructor <;> omega)) (by omega)) ?_
 rintro _ _ ⟨rr,rs,rfl,rfl⟩
 refine Y.m (.c (.c (.c .n))) ?_
 refine Y.h (WS.a .g1) ?_
 rintro⟨ov,cf,rfl,i5,i6,i7⟩
 refine Y.h (WS.a .g2) ?_
 rintro⟨en,eo,rfl,i8,i9,ja⟩
 refine Y.nt (Y.seq ?_)
 refine Y.w (.c .g1 .n) eC ?_
 rintro cg a4
 obtain⟨aa,am⟩:=aI (xs:=(bH F ((aT f p).1) (List.eraseIdx (aB (F).inodes ((aT f p).1)) ae)).inodes) (j:=Int.toNat ((aT f q).1)) (by first | omega |(simp <;> omega))
 obtain⟨rt,bk⟩:=aI (xs:=cg) (j:=Int.toNat ((aT f q).1)) (by rw [a4];exact(List.getElem?_eq_some_iff.1 am).1)
 refine Y.an .g1 (cW am bk) ?_
 refine Y.w (.c .z .n) dR ?_
 rintro⟨ru,rv⟩ rfl
 refine Y.h (WS.a .z) ?_
 rintro⟨ch,ci,rfl,jb,jc,jd⟩
 refine Y.h (WS.a .g1) ?_
 rintro⟨ow,ox,rfl,je,jf,jg⟩
 have oy:=cH (i:=((aT f q).1)) am (by omega)
 have ep:=cI (a:=((aT f q).1)) am (by omega)
 have oz:=dC (a:=((aT f q).1)) am (by omega)
 have hyl:aa.ents.length≤5:=by have e8:=congrArg List.length ep;exact ix.elim (fun h5=>by first | omega |(simp only [bH] at *;omega)) (fun h5=>by have e9:=hrl.2 h5.1;first | omega |(simp only [bH] at *;omega))
 refine Y.sel (.c .z (.c .z (.c .g4 (.c .z (.c .z (.c .z (.c .z (.c .z (.c .z .n))))))))) ?_
 refine Y.dr .g3 15 gG ?_
 refine Y.sc (qs 0 12++ [(12,false),(13,false),(14,true),(15,false)]) (by kernel_rfl) ?_
 refine Y.df rfl rfl .g3 .g10 aO (Y.dl rfl rfl .g3 bK .z .g3 (Y.dm rfl rfl .g3 .g14 (Y.df rfl rfl .g3 .g13 aO (Y.dl rfl rfl .g3 bK .z .g3 (Y.dm rfl rfl .g3 (.s16 .g1) ?_)))))
 refine Y.h (WS.i .g5 (by first | omega |(simp <;> omega) |(simp only [List.length_append,List.length_cons,List.length_nil,List.length_set] at *;omega))) ?_
 rintro⟨cj,rfl⟩
 refine Y.dk rfl rfl .g3 (aC (j:=Int.toNat ((aT f q).1)) rfl cE aU (.t .g1) (.t .z) (by omega) (by first | omega |(simp <;> omega))) ?_
 refine Y.df rfl rfl .g3 .z bE (Y.dk rfl rfl .g3 (aL rfl dP (.t .z) (WS.h .g2 bk rfl)) (Y.dm rfl rfl .g3 (.s16 .g4) (Y.dm rfl rfl .g3 (.s16 .g7) (Y.dk rfl rfl .g3 (aZ (cs:= [.string ((aT f q).2.1),.int .i64 ag.ino]) rfl pI (pv2 (.t .g1) (.t .z)) rfl) ?_))))
 refine Y.call (aE rfl rfl) rfl (by decide) rfl (bS rfl Tryz.func128 rfl rfl (aX (.t .g3) (.t .z))) .n (fun _ _ hs tr=>yZ (tr.own .g1) (nU (⟨(aT f q).2.1,ag.ino⟩:aQ) (by first | assumption | omega |(dsimp only;omega))) (by omega)) ?_
 rintro _ _ rfl
 refine Y.m (.c .n) ?_
 refine Y.h (WS.a .z) ?_
 rintro⟨bm,bn,rfl,jh,ji,jj⟩
 refine Y.sk .g4 ?_
 refine Y.q (aE rfl rfl) rfl (by decide) rfl (aC (j:=Int.toNat ((aT f q).1)) rfl cE aU (.t .g11) (.t .g10) (by omega) (by first | omega |(simp <;> omega))) ?_
 refine Y.sk .g4 ?_
 refine Y.df rfl rfl .g4 .z bE ?_
 refine Y.es (aE rfl rfl) rfl (gY (j:=Int.toNat ((aT f q).1)) (off:=4) (cs:= [.slice bm (dL aa.ents (⟨(aT f q).2.1,ag.ino⟩:aQ)).length bn]) rfl nC (.t .z) (gA _ _ _) (.t .g2) rfl (lZ rfl) .g6 bk (Nat.le_of_ble_eq_true rfl)) ?_
 refine Y.af (x':=List.set cg (Int.toNat ((aT f q).1)) [.int .i64 aa.kind,.int .i64 aa.links,.int .i64 aa.size,.slice ch aa.blocks.length ci,.slice bm (dL aa.ents (⟨(aT f q).2.1,ag.ino⟩:aQ)).length bn]) .z rfl ?_
 refine Y.sl rfl ?_
 refine Y.aa ?_
 refine Y.ag (by kernel_rfl) ?_
 refine Y.g (Y.seq (Y.region (Y.ql rfl (qW rfl bI (.t (.s16 .g9)) .g7 aW) (Y.ql rfl (aZ (cs:= [.int .i64 0,.int .i64 0,.int .i64 0,.slice none 0 0,.slice none 0 0,.slice (some cj) ((bH F ((aT f p).1) (List.eraseIdx (aB (F).inodes ((aT f p).1)) ae)).inodes).length cf,.slice en ((bH F ((aT f p).1) (List.eraseIdx (aB (F).inodes ((aT f p).1)) ae)).data).length eo]) rfl mO (pv1 (.t .z)) rfl) ?_))))
 refine Y.es (aD rfl) rfl (esW rfl (.t (.s16 (.s16 .g1))) (.t .z) .g8 bG rfl rfl) ?_
 refine Y.nt (Y.ret ?_)
 refine Y.v (c:=aG bD (⟨aa.kind,aa.links,aa.size,aa.blocks,dL aa.ents (⟨(aT f q).2.1,ag.ino⟩:aQ)⟩:aF) [.int .i64 aa.kind,.int .i64 aa.links,.int .i64 aa.size,.slice ch aa.blocks.length ci,.slice bm (dL aa.ents (⟨(aT f q).2.1,ag.ino⟩:aQ)).length bn]) (.c .g3 (.c .g2 .n)) (fun w S h=>bF (⟨aa.kind,aa.links,aa.size,aa.blocks,dL aa.ents (⟨(aT f q).2.1,ag.ino⟩:aQ)⟩:aF) h) ?_
 refine Y.v (c:=aG aP (List.set ((bH F ((aT f p).1) (List.eraseIdx (aB (F).inodes ((aT f p).1)) ae)).inodes) (Int.toNat ((aT f q).1)) (⟨aa.kind,aa.links,aa.size,aa.blocks,dL aa.ents (⟨(aT f q).2.1,ag.ino⟩:aQ)⟩:aF)) [.slice (some cj) ((bH F ((aT f p).1) (List.eraseIdx (aB (F).inodes ((aT f p).1)) ae)).inodes).length cf]) (.c .g2 (.c .z (.c .g3 (.c .g3 .n)))) (dQ (K:=bD) a4 (List.getElem?_eq_some_iff.1 am).1 rfl) ?_
 refine Y.add (c:=aG cX [] [.slice none 0 0]) (fun w S=>aN w S none) ?_
 refine Y.add (c:=aG fB [] [.slice none 0 0]) (fun w S=>aN w S none) ?_
 refine Y.i (dD rfl (.s16 (.s16 .g1)) dS .g3 bG) (.c .g1 (.c .z (.c .z (.c .g2 .n)))) ?_
 exact⟨(⟨0,0,0,[],[],(⟨List.set ((bH F ((aT f p).1) (List.eraseIdx (aB (F).inodes ((aT f p).1)) ae)).inodes) (Int.toNat ((aT f q).1)) (⟨aa.kind,aa.links,aa.size,aa.blocks,dL aa.ents (⟨(aT f q).2.1,ag.ino⟩:aQ)⟩:aF),(bH F ((aT f p).1) (List.eraseIdx (aB (F).inodes ((aT f p).1)) ae)).data⟩:DFs)⟩:eJ),(by first | exact hj | assumption | exact aHl hJG am hyl (by rw [hGl];constructor <;>(dsimp only;omega)) (by dsimp only;omega)),_,_,_,_,rfl,rfl⟩
 refine Y.j rfl rfl .z rfl rfl (by decide) rfl ?_
 refine Y.j rfl rfl .g1 rfl rfl (by decide) rfl ?_
 refine Y.j rfl rfl .g2 rfl rfl (by decide) rfl ?_
 refine Y.ql rfl (bW rfl (.t .g3) .c) (Y.nt ?_)
 refine Y.ar (.t .z) ?_
 refine Y.skip (Y.g (Y.seq (Y.region (Y.ql rfl (qW rfl bI (.t (.s16 (.s16 (.s16 .g8)))) .g1 aW) ?_))))
 refine Y.cl rfl rfl Tryz.func67 rfl rfl (bT (.t .z)) .n (fun _ _ hs tr=>vJ (aM f (tr.ctx ac) (tr.ctx ad))) ?_
 rintro _ _ ⟨rx,ry,rfl,rfl⟩
 refine Y.m (.c (.c .n)) ?_
 refine Y.h (WS.a .z) ?_
 rintro⟨ck,cm,rfl,jk,jl,jm⟩
 refine Y.h (WS.a .g1) ?_
 rintro⟨cn,co,rfl,jn,jo,jp⟩
 refine Y.el rfl (bL rfl nF rfl rfl) ?_
 rintro _ _ ⟨g183,rfl,rfl⟩
 refine Y.es (aD rfl) rfl (esW rfl (.t .z) (.t .g1) .z aW rfl rfl) ?_
 refine Y.nt (Y.seq (Y.region (Y.fa rfl (.s16 (.s16 (.s16 .g11))) aO (Y.ld rfl bK .z .g4 (Y.mv rfl (.s16 .g5) ?_)))))
 obtain⟨a0,ax⟩:=aI (xs:=f.inodes) (j:=Int.toNat ((aT f q).1)) (by first | omega |(simp <;> omega))
 obtain⟨jq,c9,a1,a2⟩:=au.elem ax
 obtain⟨f7,f8,rfl,b6,a5⟩:=cK c9
 obtain⟨f9,ga,rfl,et,eu,ew,ey⟩:=aH b6
 obtain⟨gb,gc,rfl,ez,e0,e1,bo⟩:=aH a5
 have o0:=cH (i:=((aT f q).1)) ax (by omega)
 have a6:=cI (a:=((aT f q).1)) ax (by omega)
 have o1:=dC (a:=((aT f q).1)) ax (by omega)
 have da:=ht.get ax
 refine Y.ql rfl (aC (j:=Int.toNat ((aT f q).1)) rfl cE aU (.t .g1) (.t .z) (by omega) (by first | omega |(simp <;> omega))) ?_
 refine Y.fa rfl .z bE (Y.le rfl dP .z a1 a2 (Y.mv rfl (.s16 .g8) ?_))
 refine Y.cl rfl rfl Tryz.func127 rfl rfl (aX (.t .g1) (.t .z)) .n (fun _ _ hs tr=>rJ (tr.ctx a5) _ (by first | assumption | omega |(dsimp only;omega))) ?_
 rintro _ _ ⟨rfl,rfl⟩
 refine Y.m .n ?_
 refine Y.as rfl .z (Y.nt ?_)
 refine Y.ay (γ:=(Option Addr)×Nat×(Option Addr)×Nat×DFs) (fun⟨aj,ah,ak,al,F⟩=> [(14,.pointer (some ⟨g183,0,none⟩)),(13,.string ((aT f q).2.1)),(12,.int .i64 ((aT f q).1)),(11,.int .i64 ag.ino),(8,.string ((aT f p).2.1)),(7,.int .i64 ((aT f p).1)),(6,.pointer (some ⟨g4,0,none⟩))]) (fun⟨aj,ah,ak,al,F⟩=> [cM g183 27 2 1 [.slice aj F.inodes.length ah,.slice ak F.data.length al],aG aP F.inodes [.slice aj F.inodes.length ah],aG cG F.data [.slice ak F.data.length al],cM g4 155 7 1 [.int .i64 0,.int .i64 0,.int .i64 0,.slice none 0 0,.slice none 0 0,.slice none 0 0,.slice none 0 0],cM g3 27 2 1 [.slice (some ds) f.inodes.length bu,.slice bv f.data.length bw]]) (fun⟨aj,ah,ak,al,F⟩=>Jf F∧F.inodes.length=f.inodes.length∧0≤eS (cA ((aT f p).2.1)) (aB F.inodes ((aT f p).1))∧((aB F.inodes ((aT f q).1)).length≤5∨(((aT f q).1)=((aT f p).1)∧(aB F.inodes ((aT f q).1)).length≤6))) ?_ ?_
 refine Y.seq (Y.region (Y.mv rfl .z (Y.ql rfl (lU rfl (.t .z) .c) (Y.nt ?_))))
 refine Y.u (.t .z) (fun jr=> ?_) (fun jr=> ?_)
 have js:=gN (cA ((aT f q).2.1)) a0.ents
 refine Y.seq (Y.region (Y.ql rfl (aK rfl (.t (.s16 (.s16 (.s16 (.s16 .g6))))) (fun _=>aO _ _)) (Y.ld rfl bK .z .g4 (Y.mv rfl (.s16 .g16) ?_))))
 refine Y.ql rfl (aC (j:=Int.toNat ((aT f q).1)) rfl cE aU (.t .g1) (.t .z) (by omega) (by first | omega |(simp <;> omega))) ?_
 refine Y.fa rfl .z bE (Y.le rfl dP .z a1 a2 (Y.mv rfl .g8 ?_))
 obtain⟨o2,b8,b9⟩:=bo (by omega)
 subst b8
 obtain⟨jt,a7⟩:=aI (xs:=a0.ents) (j:=Int.toNat (eS (cA ((aT f q).2.1)) a0.ents)) (by first | omega |(simp <;> omega))
 obtain⟨ju,db,dc,dd⟩:=b9.elem a7
 obtain⟨rfl,gd⟩:=eR db
 have jv:=rZ da _ _ a7
 refine Y.ql rfl (aC (j:=Int.toNat (eS (cA ((aT f q).2.1)) a0.ents)) rfl cZ dV (.t .g1) (.t .z) (by omega) (by first | omega |(simp <;> omega))) ?_
 refine Y.fa rfl .z iX (Y.le rfl cF .z dc dd (Y.as rfl .z (Y.nt (Y.seq (Y.seq (Y.region (Y.mv rfl .z ?_)))))))
 refine Y.mv rfl (.s16 (.s16 (.s16 .g1))) (Y.ql rfl (bZ rfl (.t .g1) (.t .z)) (Y.nt ?_))
 refine Y.u (.t .z) (fun jw=> ?_) (fun jw=> ?_)
 refine Y.seq (Y.region (Y.ql rfl (qW rfl bI (.t (.s16 (.s16 (.s16 (.s16 (.s16 .g4)))))) .g4 aW) ?_))
 refine Y.cl rfl rfl Tryz.func172 rfl rfl (aX (.t .z) .c) .n (fun _ _ hs tr=>hU (aM f (tr.ctx ac) (tr.ctx ad)) _) ?_
 rintro _ _ ⟨rz,r0,r1,r2,rfl,rfl⟩
 refine Y.m (.c (.c (.c (.c .n)))) ?_
 refine Y.h (WS.a .z) ?_
 rintro⟨o3,o4,rfl,jx,jy,jz⟩
 refine Y.h (WS.a .g1) ?_
 rintro⟨o5,o6,rfl,j0,j1,j2⟩
 refine Y.h (WS.a .g2) ?_
 rintro⟨o7,o8,rfl,j3,j4,j5⟩
 refine Y.h (WS.a .g3) ?_
 rintro⟨o9,pa,rfl,j6,j7,j8⟩
 refine Y.es (aD rfl) rfl (esW rfl (.t (.s16 (.s16 (.s16 (.s16 (.s16 .g5)))))) (.t .z) .g7 bG rfl rfl) ?_
 refine Y.nt (Y.ret (Y.r (Y.r ?_)))
 refine Y.i (dD rfl (.s16 (.s16 (.s16 (.s16 (.s16 .g5))))) dS .z bG) (.c .g1 (.c .g1 (.c .g1 (.c .g1 .n)))) ?_
 exact⟨(⟨0,0,0,[],[],(⟨f.inodes,f.data⟩:DFs)⟩:eJ),(by first | exact hj | assumption),_,_,_,_,rfl,rfl⟩
 refine Y.skip (Y.g (Y.seq (Y.seq (Y.region (Y.mv rfl (.s16 (.s16 (.s16 .g3))) (Y.mv rfl .g4 ?_))))))
 refine Y.cl rfl rfl Tryz.func177 rfl rfl (dX (.t (.s16 (.s16 (.s16 (.s16 (.s16 .g6)))))) (.t .g1) (.t .z)) .n (fun _ _ hs tr=>aJv (tr.ptr .g4 (aM f (tr.ctx ac) (tr.ctx ad))) _ _ (by first | assumption |(constructor <;> omega)) (by first | assumption |(constructor <;> omega))) ?_
 rintro _ _ ⟨e2,dg,rfl,rfl⟩
 refine Y.m .n ?_
 refine Y.as rfl .z (Y.nt (Y.seq (Y.region (Y.mv rfl .z (Y.ql rfl (cU rfl (.t .z) .c) (Y.nt ?_))))))
 refine Y.ad (.t .z) (fun j9=> ?_) (fun j9=> ?_)
 refine Y.seq (Y.region (Y.ql rfl (qW rfl bI (.t (.s16 (.s16 (.s16 (.s16 (.s16 .g10)))))) .g4 aW) (Y.mv rfl .g3 ?_)))
 refine Y.cl rfl rfl Tryz.func172 rfl rfl (aX (.t .g1) (.t .z)) .n (fun _ _ hs tr=>hU (aM f (tr.ctx ac) (tr.ctx ad)) _) ?_
 rintro _ _ ⟨r3,r4,r5,r6,rfl,rfl⟩
 refine Y.m (.c (.c (.c (.c .n)))) ?_
 refine Y.h (WS.a .z) ?_
 rintro⟨pb,pc,rfl,ka,kb,kc⟩
 refine Y.h (WS.a .g1) ?_
 rintro⟨pd,pe,rfl,kd,ke,kf⟩
 refine Y.h (WS.a .g2) ?_
 rintro⟨pf,pg,rfl,kg,kh,ki⟩
 refine Y.h (WS.a .g3) ?_
 rintro⟨ph,pi,rfl,kj,kk,kl⟩
 refine Y.es (aD rfl) rfl (esW rfl (.t (.s16 (.s16 (.s16 (.s16 (.s16 .g12)))))) (.t .z) .g7 bG rfl rfl) ?_
 refine Y.nt (Y.ret (Y.r (Y.r ?_)))
 refine Y.i (dD rfl (.s16 (.s16 (.s16 (.s16 (.s16 .g12))))) dS .z bG) (.c .g1 (.c .g1 (.c .g1 (.c .g1 .n)))) ?_
 exact⟨(⟨0,e2,0,[],[],(⟨f.inodes,f.data⟩:DFs)⟩:eJ),(by first | exact hj | assumption),_,_,_,_,rfl,rfl⟩
 refine Y.skip (Y.g (Y.region (Y.mv rfl (.s16 (.s16 (.s16 .g2))) (Y.mv rfl (.s16 .g7) ?_))))
 obtain⟨aq,dh,ca, -⟩:=kN (show¬eS (cA ((aT f q).2.1)) a0.ents= -1 by omega)
 refine Y.eq .z (congrArg (Value.int .i64) dh) ?_
 have ay:aq<(aB f.inodes ((aT f q).1)).length:=by rw [a6];exact ca
 have hFl:(jF f ((aT f q).1) aq).inodes.length=f.inodes.length:=zC
 refine Y.cl rfl rfl Tryz.func175 rfl rfl (dX (.t (.s16 (.s16 .g1))) (.t .g1) (.t .z)) (.c .z (.c .z (.c .z .n))) (fun _ _ hs tr=>aB2 (f:=f) _ _ hs (by assumption) (by first | assumption |(constructor <;> omega)) (by first | omega | assumption)) ?_
 rintro _ _ ⟨r7,r8,rfl,rfl⟩
 refine Y.m (.c (.c (.c .n))) ?_
 refine Y.h (WS.a .g1) ?_
 rintro⟨e3,e4,rfl,km,kn,ko⟩
 refine Y.h (WS.a .g2) ?_
 rintro⟨e5,e7,rfl,kp,kq,kr⟩
 refine Y.nil ?_
 have h6t:=kJ ht ((aT f q).1)
 obtain⟨i0,h9,ia, -⟩:=kN (show¬eS (cA ((aT f p).2.1)) bx.ents= -1 by omega)
 have ib:eS (cA ((aT f p).2.1)) (aB f.inodes ((aT f p).1))=(i0:Int):=by rw [ai];exact h9
 have ic:eY (aB f.inodes ((aT f p).1)) i0=ag.ino:=by rw [ai];exact mZ (by first | exact ba |(rw [show i0=Int.toNat (eS (cA ((aT f p).2.1)) bx.ents) by omega];exact ba))
 have ef:eY (aB f.inodes ((aT f q).1)) aq=jt.ino:=by rw [a6];exact mZ (by first | exact a7 |(rw [show aq=Int.toNat (eS (cA ((aT f q).2.1)) a0.ents) by omega];exact a7))
 have hst:=zE hj (by assumption) (by assumption) ib ay (by rw [ef,ic];first | assumption | omega) (by rw [ef];first | assumption | exact dg (by omega))
 have hsh:=uU (f:=f) (a:=((aT f q).1)) (i:=aq) (by omega) ay
 exact Y.aq (e3,e4,e5,e7,(jF f ((aT f q).1) aq)) ⟨by first | exact hj | exact jH hj _ _,by first | rfl | assumption,hst,by first | omega |(left;omega) |(right;omega)⟩ (.c (.s16 (.s16 .g2)) (.c (.s16 (.s16 (.s16 .g4))) (.c (.s16 (.s16 (.s16 .g5))) (.c (.s16 (.s16 (.s16 .g12))) (.c (.s16 (.s16 (.s16 (.s16 (.s16 .g4))))) (.c (.s16 (.s16 (.s16 (.s16 (.s16 .g5))))) (.c (.s16 (.s16 (.s16 (.s16 (.s16 .g12))))) .n))))))) (fun _ h=>h.sel (.c .z (.c .z (.c .z (.c .z (.c .z .n))))))
 have ks:=gN (cA ((aT f q).2.1)) a0.ents
 refine Y.seq (Y.region (Y.mv rfl (.s16 .g14) (Y.mv rfl (.s16 (.s16 (.s16 .g15))) (Y.ql rfl (cU rfl (.t .g1) (.t .z)) (Y.mv rfl .z ?_)))))
 refine Y.ap .z (fun g228=> ?_) (fun g228=> ?_)
 refine Y.qg rfl rfl .z rfl rfl rfl (aK rfl (.t (.s16 (.s16 (.s16 (.s16 .g10))))) (fun _=>aO _ _)) ?_
 refine Y.qg rfl rfl .g1 rfl rfl rfl (aL rfl bK (.t .z) (WS.g .g4 rfl)) ?_
 refine Y.qg rfl rfl .g2 rfl rfl rfl (aV rfl (.t (.s16 (.s16 .g4)))) ?_
 refine Y.qg rfl rfl .g3 rfl rfl rfl (aC (j:=Int.toNat ((aT f q).1)) rfl cE aU (.t .g1) (.t .z) (by omega) (by first | omega |(simp <;> omega))) ?_
 refine Y.qg rfl rfl .g4 rfl rfl rfl (aK rfl (.t .z) (fun _=>bE _ _)) ?_
 refine Y.qg rfl rfl .g5 rfl rfl rfl (aL rfl dP (.t .z) (WS.el a1 a2 rfl)) ?_
 refine Y.qg rfl rfl .g6 rfl rfl rfl (bM rfl cZ (.t .z)) ?_
 refine Y.qg rfl rfl .g7 rfl rfl rfl (lU rfl (.t .z) .c) ?_
 refine Y.ql rfl (bO rfl (.t .g8) (.t .z)) (Y.nt ?_)
 refine Y.u (.t .z) (fun kt=> ?_) (fun kt=> ?_)
 refine Y.seq (Y.region (Y.ql rfl (qW rfl bI (.t (.s16 (.s16 (.s16 (.s16 (.s16 .g3)))))) .g4 aW) ?_))
 refine Y.cl rfl rfl Tryz.func172 rfl rfl (aX (.t .z) .c) .n (fun _ _ hs tr=>hU (aM f (tr.ctx ac) (tr.ctx ad)) _) ?_
 rintro _ _ ⟨r9,sa,sd,se,rfl,rfl⟩
 refine Y.m (.c (.c (.c (.c .n)))) ?_
 refine Y.h (WS.a .z) ?_
 rintro⟨pj,pk,rfl,ku,kv,kw⟩
 refine Y.h (WS.a .g1) ?_
 rintro⟨pl,pm,rfl,kx,ky,kz⟩
 refine Y.h (WS.a .g2) ?_
 rintro⟨pn,po,rfl,k0,k1,k2⟩
 refine Y.h (WS.a .g3) ?_
 rintro⟨pp,pq,rfl,k3,k4,k5⟩
 refine Y.es (aD rfl) rfl (esW rfl (.t (.s16 (.s16 (.s16 (.s16 (.s16 .g4)))))) (.t .z) .g7 bG rfl rfl) ?_
 refine Y.nt (Y.ret (Y.r ?_))
 refine Y.i (dD rfl (.s16 (.s16 (.s16 (.s16 (.s16 .g4))))) dS .z bG) (.c .g1 (.c .g1 (.c .g1 (.c .g1 .n)))) ?_
 exact⟨(⟨0,2,0,[],[],(⟨f.inodes,f.data⟩:DFs)⟩:eJ),(by first | exact hj | assumption),_,_,_,_,rfl,rfl⟩
 refine Y.skip ?_
 have h6t:=kJ ht ((aT f q).1)
 have hst:0≤eS (cA ((aT f p).2.1)) (aB f.inodes ((aT f p).1)):=by rw [ai];omega
 have iu:=congrArg List.length ai;have iv:=congrArg List.length b0;have iw:=congrArg List.length a6
 exact Y.aq (ck,cm,cn,co,f) ⟨by first | exact hj | exact jH hj _ _,by first | rfl | assumption,hst,by first | omega |(left;omega) |(right;omega)⟩ (.c (.s16 .g8) (.c (.s16 (.s16 .g10)) (.c (.s16 (.s16 .g11)) (.c (.s16 (.s16 (.s16 .g2))) (.c (.s16 (.s16 (.s16 (.s16 .g10)))) (.c (.s16 (.s16 (.s16 (.s16 .g11)))) (.c (.s16 (.s16 (.s16 (.s16 (.s16 .g2))))) .n))))))) (fun _ h=>h.sel (.c .z (.c .z (.c .z (.c .z (.c .z .n))))))
 refine Y.j rfl rfl .z rfl rfl (by decide) rfl ?_
 refine Y.j rfl rfl .g1 rfl rfl (by decide) rfl ?_
 refine Y.j rfl rfl .g2 rfl rfl (by decide) rfl ?_
 refine Y.j rfl rfl .g3 rfl rfl (by decide) rfl ?_
 refine Y.j rfl rfl .g4 rfl rfl (by decide) rfl ?_
 refine Y.j rfl rfl .g5 rfl rfl (by decide) rfl ?_
 refine Y.j rfl rfl .g6 rfl rfl (by decide) rfl ?_
 refine Y.j rfl rfl .g7 rfl rfl (by decide) rfl ?_
 refine Y.ql rfl (bW rfl (.t .g8) .c) (Y.nt ?_)
 refine Y.ar (.t .z) ?_
 refine Y.skip ?_
 have h6t:=kJ ht ((aT f q).1)
 have hst:0≤eS (cA ((aT f p).2.1)) (aB f.inodes ((aT f p).1)):=by rw [ai];omega
 have iu:=congrArg List.length ai;have iv:=congrArg List.length b0;have iw:=congrArg List.length a6
 exact Y.aq (ck,cm,cn,co,f) ⟨by first | exact hj | exact jH hj _ _,by first | rfl | assumption,hst,by first | omega |(left;omega) |(right;omega)⟩ (.c (.s16 .g8) (.c (.s16 (.s16 .g10)) (.c (.s16 (.s16 .g11)) (.c (.s16 (.s16 (.s16 .g2))) (.c (.s16 (.s16 (.s16 (.s16 .g10)))) (.c (.s16 (.s16 (.s16 (.s16 .g11)))) (.c (.s16 (.s16 (.s16 (.s16 (.s16 .g2))))) .n))))))) (fun _ h=>h.sel (.c .z (.c .z (.c .z (.c .z (.c .z .n))))))
 rintro⟨aj,ah,ak,al,F⟩ ⟨hJF,hFl,hst,ix⟩
 refine Y.seq (Y.region (Y.mv rfl .g5 (Y.fa rfl .g1 aO (Y.ld rfl bK .z .z (Y.mv rfl .g8 ?_)))))
 refine Y.w (.c .g1 .n) eC ?_
 rintro fb a8
 obtain⟨az,ar⟩:=aI (xs:=F.inodes) (j:=Int.toNat ((aT f p).1)) (by first | omega |(simp <;> omega))
 obtain⟨sf,bp⟩:=aI (xs:=fb) (j:=Int.toNat ((aT f p).1)) (by rw [a8];exact(List.getElem?_eq_some_iff.1 ar).1)
 refine Y.an .g1 (cW ar bp) ?_
 refine Y.w (.c .z .n) dR ?_
 rintro⟨sg,sh⟩ rfl
 refine Y.h (WS.a .z) ?_
 rintro⟨fc,fd,rfl,k6,k7,k8⟩
 refine Y.h (WS.a .g1) ?_
 rintro⟨fe,ff,rfl,k9,la,lc⟩
 have pr:=cH (i:=((aT f p).1)) ar (by omega)
 have cp:=cI (a:=((aT f p).1)) ar (by omega)
 have ps:=dC (a:=((aT f p).1)) ar (by omega)
 refine Y.h (WS.i .g4 (by first | omega |(simp <;> omega) |(simp only [List.length_append,List.length_cons,List.length_nil,List.length_set] at *;omega))) ?_
 rintro⟨fg,rfl⟩
 refine Y.ql rfl (aC (j:=Int.toNat ((aT f p).1)) rfl cE aU (.t .g1) (.t .z) (by omega) (by first | omega |(simp <;> omega))) ?_
 refine Y.fa rfl .z bE (Y.ql rfl (aL rfl dP (.t .z) (WS.h .g4 bp rfl)) (Y.mv rfl .g11 ?_))
 refine Y.cl rfl rfl Tryz.func127 rfl rfl (aX (.t .g1) (.t .z)) .n (fun _ _ hs tr=>rJ (tr.own .g1) _ (by first | assumption | omega |(dsimp only;omega))) ?_
 rintro _ _ ⟨rfl,rfl⟩
 refine Y.m .n ?_
 refine Y.v (c:=aG bD az [.int .i64 az.kind,.int .i64 az.links,.int .i64 az.size,.slice fc az.blocks.length fd,.slice fe az.ents.length ff]) (.c .z (.c .z .n)) (fun w S h=>bF az h) ?_
 refine Y.v (c:=aG aP F.inodes [.slice (some fg) F.inodes.length ah]) (.c .g3 (.c .z (.c .z (.c .z .n)))) (bU (K:=bD) a8 ar bp) ?_
 rw [cp] at hst
 obtain⟨af,di,cb, -⟩:=kN (show¬eS (cA ((aT f p).2.1)) az.ents= -1 by omega)
 refine Y.eq .z (congrArg (Value.int .i64) di) ?_
 have bq:af<(aB F.inodes ((aT f p).1)).length:=by rw [cp];exact cb
 have hrl:=aEo (F:=F) (d:=((aT f p).1)) (t:=((aT f q).1)) (i:=af) (by rw [hFl];assumption) (by rw [hFl];assumption) bq
 have hJG:Jf (bH F ((aT f p).1) (List.eraseIdx (aB F.inodes ((aT f p).1)) af)):=wK hJF
 have hGl:(bH F ((aT f p).1) (List.eraseIdx (aB F.inodes ((aT f p).1)) af)).inodes.length=f.inodes.length:=bB.trans hFl
 refine Y.cl rfl rfl Tryz.func178 rfl rfl (dX (.t .g9) (.t .g8) (.t .z)) (.c .g1 (.c .z (.c .z .n))) (fun _ _ hs tr=>aHz (f:=F) _ _ hs (by first | assumption |(constructor <;> omega)) (by omega)) ?_
 rintro _ _ ⟨si,sj,rfl,rfl⟩
 refine Y.m (.c (.c (.c .n))) ?_
 refine Y.h (WS.a .g1) ?_
 rintro⟨pt,cq,rfl,lf,lg,lh⟩
 refine Y.h (WS.a .g2) ?_
 rintro⟨fh,fi,rfl,li,lj,lk⟩
 refine Y.nt (Y.seq ?_)
 refine Y.w (.c .g1 .n) eC ?_
 rintro cr a9
 obtain⟨ab,an⟩:=aI (xs:=(bH F ((aT f p).1) (List.eraseIdx (aB (F).inodes ((aT f p).1)) af)).inodes) (j:=Int.toNat ((aT f q).1)) (by first | omega |(simp <;> omega))
 obtain⟨sm,br⟩:=aI (xs:=cr) (j:=Int.toNat ((aT f q).1)) (by rw [a9];exact(List.getElem?_eq_some_iff.1 an).1)
 refine Y.an .g1 (cW an br) ?_
 refine Y.w (.c .z .n) dR ?_
 rintro⟨sn,so⟩ rfl
 refine Y.h (WS.a .z) ?_
 rintro⟨ct,cu,rfl,ll,lm,ln⟩
 refine Y.h (WS.a .g1) ?_
 rintro⟨pu,pv,rfl,lo,lp,lq⟩
 have pw:=cH (i:=((aT f q).1)) an (by omega)
 have fj:=cI (a:=((aT f q).1)) an (by omega)
 have px:=dC (a:=((aT f q).1)) an (by omega)
 have hyl:ab.ents.length≤5:=by have e8:=congrArg List.length fj;exact ix.elim (fun h5=>by first | omega |(simp only [bH] at *;omega)) (fun h5=>by have e9:=hrl.2 h5.1;first | omega |(simp only [bH] at *;omega))
 refine Y.sel (.c .z (.c .z (.c .g4 (.c .z (.c .z (.c .z (.c .z (.c .z (.c .z .n))))))))) ?_
 refine Y.dr .g3 15 gG ?_
 refine Y.sc (qs 0 12++ [(12,false),(13,false),(14,true),(15,false)]) (by kernel_rfl) ?_
 refine Y.df rfl rfl .g3 .g10 aO (Y.dl rfl rfl .g3 bK .z .g3 (Y.dm rfl rfl .g3 .g14 (Y.df rfl rfl .g3 .g13 aO (Y.dl rfl rfl .g3 bK .z .g3 (Y.dm rfl rfl .g3 (.s16 .g1) ?_)))))
 refine Y.h (WS.i .g5 (by first | omega |(simp <;> omega) |(simp only [List.length_append,List.length_cons,List.length_nil,List.length_set] at *;omega))) ?_
 rintro⟨cv,rfl⟩
 refine Y.dk rfl rfl .g3 (aC (j:=Int.toNat ((aT f q).1)) rfl cE aU (.t .g1) (.t .z) (by omega) (by first | omega |(simp <;> omega))) ?_
 refine Y.df rfl rfl .g3 .z bE (Y.dk rfl rfl .g3 (aL rfl dP (.t .z) (WS.h .g2 br rfl)) (Y.dm rfl rfl .g3 (.s16 .g4) (Y.dm rfl rfl .g3 (.s16 .g7) (Y.dk rfl rfl .g3 (aZ (cs:= [.string ((aT f q).2.1),.int .i64 ag.ino]) rfl pI (pv2 (.t .g1) (.t .z)) rfl) ?_))))
 refine Y.call (aE rfl rfl) rfl (by decide) rfl (bS rfl Tryz.func128 rfl rfl (aX (.t .g3) (.t .z))) .n (fun _ _ hs tr=>yZ (tr.own .g1) (nU (⟨(aT f q).2.1,ag.ino⟩:aQ) (by first | assumption | omega |(dsimp only;omega))) (by omega)) ?_
 rintro _ _ rfl
 refine Y.m (.c .n) ?_
 refine Y.h (WS.a .z) ?_
 rintro⟨bs,bt,rfl,lr,ls,lu⟩
 refine Y.sk .g4 ?_
 refine Y.q (aE rfl rfl) rfl (by decide) rfl (aC (j:=Int.toNat ((aT f q).1)) rfl cE aU (.t .g11) (.t .g10) (by omega) (by first | omega |(simp <;> omega))) ?_
 refine Y.sk .g4 ?_
 refine Y.df rfl rfl .g4 .z bE ?_
 refine Y.es (aE rfl rfl) rfl (gY (j:=Int.toNat ((aT f q).1)) (off:=4) (cs:= [.slice bs (dL ab.ents (⟨(aT f q).2.1,ag.ino⟩:aQ)).length bt]) rfl nC (.t .z) (gA _ _ _) (.t .g2) rfl (lZ rfl) .g6 br (Nat.le_of_ble_eq_true rfl)) ?_
 refine Y.af (x':=List.set cr (Int.toNat ((aT f q).1)) [.int .i64 ab.kind,.int .i64 ab.links,.int .i64 ab.size,.slice ct ab.blocks.length cu,.slice bs (dL ab.ents (⟨(aT f q).2.1,ag.ino⟩:aQ)).length bt]) .z rfl ?_
 refine Y.sl rfl ?_
 refine Y.aa ?_
 refine Y.ag (by kernel_rfl) ?_
 refine Y.g (Y.seq (Y.region (Y.ql rfl (qW rfl bI (.t (.s16 .g9)) .g7 aW) (Y.ql rfl (aZ (cs:= [.int .i64 0,.int .i64 0,.int .i64 0,.slice none 0 0,.slice none 0 0,.slice (some cv) ((bH F ((aT f p).1) (List.eraseIdx (aB (F).inodes ((aT f p).1)) af)).inodes).length cq,.slice fh ((bH F ((aT f p).1) (List.eraseIdx (aB (F).inodes ((aT f p).1)) af)).data).length fi]) rfl mO (pv1 (.t .z)) rfl) ?_))))
 refine Y.es (aD rfl) rfl (esW rfl (.t (.s16 (.s16 .g1))) (.t .z) .g8 bG rfl rfl) ?_
 refine Y.nt (Y.ret ?_)
 refine Y.v (c:=aG bD (⟨ab.kind,ab.links,ab.size,ab.blocks,dL ab.ents (⟨(aT f q).2.1,ag.ino⟩:aQ)⟩:aF) [.int .i64 ab.kind,.int .i64 ab.links,.int .i64 ab.size,.slice ct ab.blocks.length cu,.slice bs (dL ab.ents (⟨(aT f q).2.1,ag.ino⟩:aQ)).length bt]) (.c .g3 (.c .g2 .n)) (fun w S h=>bF (⟨ab.kind,ab.links,ab.size,ab.blocks,dL ab.ents (⟨(aT f q).2.1,ag.ino⟩:aQ)⟩:aF) h) ?_
 refine Y.v (c:=aG aP (List.set ((bH F ((aT f p).1) (List.eraseIdx (aB (F).inodes ((aT f p).1)) af)).inodes) (Int.toNat ((aT f q).1)) (⟨ab.kind,ab.links,ab.size,ab.blocks,dL ab.ents (⟨(aT f q).2.1,ag.ino⟩:aQ)⟩:aF)) [.slice (some cv) ((bH F ((aT f p).1) (List.eraseIdx (aB (F).inodes ((aT f p).1)) af)).inodes).length cq]) (.c .g2 (.c .z (.c .g3 (.c .g3 .n)))) (dQ (K:=bD) a9 (List.getElem?_eq_some_iff.1 an).1 rfl) ?_
 refine Y.add (c:=aG cX [] [.slice none 0 0]) (fun w S=>aN w S none) ?_
 refine Y.add (c:=aG fB [] [.slice none 0 0]) (fun w S=>aN w S none) ?_
 refine Y.i (dD rfl (.s16 (.s16 .g1)) dS .g3 bG) (.c .g1 (.c .z (.c .z (.c .g2 .n)))) ?_
 exact⟨(⟨0,0,0,[],[],(⟨List.set ((bH F ((aT f p).1) (List.eraseIdx (aB (F).inodes ((aT f p).1)) af)).inodes) (Int.toNat ((aT f q).1)) (⟨ab.kind,ab.links,ab.size,ab.blocks,dL ab.ents (⟨(aT f q).2.1,ag.ino⟩:aQ)⟩:aF),(bH F ((aT f p).1) (List.eraseIdx (aB (F).inodes ((aT f p).1)) af)).data⟩:DFs)⟩:eJ),(by first | exact hj | assumption | exact aHl hJG an hyl (by rw [hGl];constructor <;>(dsimp only;omega)) (by dsimp only;omega)),_,_,_,_,rfl,rfl⟩

end Go.Proofs.YtmejbfmhaoilmaaGreat

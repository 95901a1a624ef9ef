/- What is proved: contracts of functions, one a function. No condition. -/
import Derived.Test.YtmejbfmhaoilmaaGreatBase1
import Derived.Test.YtmejbfmhaoilmaaGreatW80
import Derived.Test.YtmejbfmhaoilmaaGreatW81
namespace Go.Proofs.YtmejbfmhaoilmaaGreat
open Go Go.RowKit
set_option linter.unusedVariables false
set_option linter.unusedSimpArgs false
set_option maxHeartbeats 1000000
set_option maxRecDepth 20000
theorem aGl {w0:World}{S0:Bs}{f:DFs}{cy:List Value} (h0:eS.ro w0 (FF w0 S0) f cy) {c:oP}{cz:List Value} (h1:uD.ro w0 (FF w0 S0) c cz) {b:(List Int)}{v2:Value} (h2:aY.ro w0 (FF w0 S0) b [v2]) (hj:Jf f):
    Calls Tryz.prog 156 #[.agg cy.toArray,.agg cz.toArray,v2] w0 (aI w0 S0 (fun r l=>∃x:eB,Jf x.fs∧rI x r l)):=by
 obtain⟨f6,f7,rfl,aa,ab⟩:=cQ h0
 obtain⟨ax,ay,rfl,c0,c1,c3,az⟩:=aD aa
 obtain⟨a0,a1,rfl,c4,c5,c6,c7⟩:=aD ab
 obtain⟨f8,rfl,a2,f9,ga⟩:=rU h1
 obtain⟨a3,a4,rfl,c8,c9,da,db⟩:=aD a2
 obtain⟨A2,c2,rfl,h7,h8,h9,ia⟩:=aD h2
 have ht:J0 f:=hj.toJ0
 have ib:=hj.n.2
 have ic:=hj.n.1
 refine Y.enter (N:=91) Tryz.func156 rfl rfl (by simp) [(0,.agg #[.slice ax f.inodes.length ay,.slice a0 f.data.length a1]),(1,.agg #[.int .i64 c.kind,.string c.path,.string c.to,.int .i64 c.frm,.int .i64 c.size,.slice a3 c.data.length a4]),(2,.slice A2 b.length c2)] (by simp) (l0:= []) trivial ?_
 refine Y.seq (Y.region ?_)
 refine Y.el rfl (fR (cs:= [.slice ax f.inodes.length ay,.slice a0 f.data.length a1]) (n:=2) rfl (.t .z) rfl rfl) ?_
 rintro _ _ ⟨g5,rfl,rfl⟩
 refine Y.el rfl (fR (cs:= [.int .i64 c.kind,.string c.path,.string c.to,.int .i64 c.frm,.int .i64 c.size,.slice a3 c.data.length a4]) (n:=6) rfl (.t .g2) rfl rfl) ?_
 rintro _ _ ⟨g6,rfl,rfl⟩
 refine Y.el rfl (bD rfl tA rfl rfl) ?_
 rintro _ _ ⟨g7,rfl,rfl⟩
 refine Y.nt (Y.seq (Y.region (Y.fa rfl .g1 mY (Y.ld rfl kP .z .g1 ?_))))
 refine Y.cl rfl rfl Tryz.func174 rfl rfl (aR (.t .g4) (.t .z)) .n (fun _ _ hs tr=>aC3 (tr.ptr .g2 (aM f (tr.ctx aa) (tr.ctx ab))) _ (by first | assumption | omega) (by assumption)) ?_
 rintro _ _ ⟨rfl,rfl⟩
 refine Y.r .n ?_
 have dc:=pO ht c.path
 refine Y.mv rfl .z (Y.ql rfl (bL (v:= .int .i64 ((cR f c.path).1)) rfl (.t .z) rfl) (Y.ql rfl (bL (v:= .int .i64 ((cR f c.path).2)) rfl (.t .g1) rfl) (Y.as rfl .g1 (Y.as rfl .g1 (Y.nt (Y.seq (Y.seq ?_)))))))
 refine Y.region (Y.mv rfl .z (Y.ql rfl (cC rfl (.t .z) .c) (Y.nt ?_)))
 refine Y.ad (.t .z) (fun b9=> ?_) (fun b9=> ?_)
 refine Y.seq (Y.region (Y.ql rfl (qW rfl bN (.t .g12) .g2 aX) (Y.mv rfl .g3 ?_)))
 refine Y.cl rfl rfl Tryz.func172 rfl rfl (aR (.t .g1) (.t .z)) .n (fun _ _ hs tr=>gX (aM f (tr.ctx aa) (tr.ctx ab)) _) ?_
 rintro _ _ ⟨id,ie,ig,ih,rfl,rfl⟩
 refine Y.r (.c (.c (.c (.c .n)))) ?_
 refine Y.i (WS.a .z) ?_
 rintro⟨gb,gc,rfl,dd,dg,dh⟩
 refine Y.i (WS.a .g1) ?_
 rintro⟨gd,ge,rfl,di,dj,dp⟩
 refine Y.i (WS.a .g2) ?_
 rintro⟨gf,gg,rfl,ds,dt,du⟩
 refine Y.i (WS.a .g3) ?_
 rintro⟨gh,gi,rfl,dv,dw,dx⟩
 refine Y.es (aE rfl) rfl (esW rfl (.t .g13) (.t .z) .g4 bA rfl rfl) ?_
 refine Y.nt (Y.ret (Y.m ?_))
 refine Y.j (dA rfl .g13 dO .z bA) (.c .g1 (.c .g1 (.c .g1 (.c .g1 .n)))) ?_
 exact⟨(⟨0,((cR f c.path).2),0,[],[],(⟨f.inodes,f.data⟩:DFs)⟩:eB),(by first | exact hj | assumption),_,_,_,_,rfl,rfl⟩
 refine Y.skip (Y.g (Y.seq (Y.seq (Y.region (Y.fa rfl .g12 aP (Y.ld rfl bO .z .g2 (Y.mv rfl .g5 ?_)))))))
 obtain⟨gj,ao,ap⟩:=az (by omega)
 subst ao
 obtain⟨ii,ag⟩:=aJ (xs:=f.inodes) (j:=Int.toNat ((cR f c.path).1)) (by first | omega |(simp <;> omega))
 obtain⟨dy,a5,a6,a7⟩:=ap.elem ag
 obtain⟨bp,bq,rfl,aq,ar⟩:=bV a5
 obtain⟨br,bs,rfl,bg,bh,bi,bj⟩:=aD aq
 obtain⟨bt,bu,rfl,bk,bm,bn,bo⟩:=aD ar
 have gk:=cZ (i:=((cR f c.path).1)) ag (by omega)
 have gl:=dD (a:=((cR f c.path).1)) ag (by omega)
 have gm:=dZ (a:=((cR f c.path).1)) ag (by omega)
 have dz:=ht.get ag
 refine Y.ql rfl (aB (j:=Int.toNat ((cR f c.path).1)) rfl cI aU (.t .g1) (.t .z) (by omega) (by first | omega |(simp <;> omega))) ?_
 refine Y.fa rfl .z bW (Y.le rfl bR .z a6 a7 (Y.ql rfl (bP rfl (.t .z) .c) (Y.nt ?_)))
 refine Y.u (.t .z) (fun gn=> ?_) (fun gn=> ?_)
 refine Y.seq (Y.region (Y.ql rfl (qW rfl bN (.t (.s16 .g3)) .g2 aX) ?_))
 refine Y.cl rfl rfl Tryz.func172 rfl rfl (aR (.t .z) .c) .n (fun _ _ hs tr=>gX (aM f (tr.ctx aa) (tr.ctx ab)) _) ?_
 rintro _ _ ⟨ij,ik,il,im,rfl,rfl⟩
 refine Y.r (.c (.c (.c (.c .n)))) ?_
 refine Y.i (WS.a .z) ?_
 rintro⟨go,gp,rfl,d0,d1,d2⟩
 refine Y.i (WS.a .g1) ?_
 rintro⟨gq,gr,rfl,d3,d4,d5⟩
 refine Y.i (WS.a .g2) ?_
 rintro⟨gs,gt,rfl,d6,d7,d8⟩
 refine Y.i (WS.a .g3) ?_
 rintro⟨gu,gv,rfl,d9,ea,eb⟩
 refine Y.es (aE rfl) rfl (esW rfl (.t (.s16 .g3)) (.t .z) .g4 bA rfl rfl) ?_
 refine Y.nt (Y.ret (Y.m ?_))
 refine Y.j (dA rfl (.s16 .g3) dO .z bA) (.c .g1 (.c .g1 (.c .g1 (.c .g1 .n)))) ?_
 exact⟨(⟨0,9,0,[],[],(⟨f.inodes,f.data⟩:DFs)⟩:eB),(by first | exact hj | assumption),_,_,_,_,rfl,rfl⟩
 refine Y.skip (Y.g (Y.seq (Y.region (Y.ql rfl (aZ (cs:= [.int .i64 0,.slice none 0 0,.slice none 0 0]) rfl mZ pv0 rfl) ?_))))
 refine Y.el rfl (bD rfl vZ rfl rfl) ?_
 rintro _ _ ⟨g40,rfl,rfl⟩
 refine Y.es (aE rfl) rfl (esW rfl (.t .z) (.t .g1) .z fH rfl rfl) ?_
 refine Y.nt (Y.seq (Y.seq (Y.region (Y.fa rfl (.s16 .g4) pD (Y.ld rfl bR .z .g2 (Y.nt ?_))))))
 refine Y.block (Y.seq (Y.region (Y.ql rfl (bP rfl (.t .z) .c) (Y.as rfl .z (Y.nt ?_)))))
 refine Y.u (.t .z) (fun gw=> ?_) (fun gw=> ?_)
 refine Y.seq (Y.region (Y.ql rfl (qW rfl bN (.t (.s16 .g9)) .g3 aX) (Y.mv rfl (.s16 .g1) (Y.fa rfl (.s16 .g10) aA5 (Y.ld rfl bR .z .g2 (Y.fa rfl (.s16 .g12) aBq (Y.ld rfl bR .z .g2 ?_)))))))
 refine Y.cl rfl rfl Tryz.func11 rfl rfl (nO (.t .g5) (.t .g4) (.t .g2) (.t .z)) .n (fun _ _ hs tr=>aNm (aM f (tr.ctx aa) (tr.ctx ab)) _ _ _) ?_
 rintro _ _ ⟨io,rfl,rfl⟩
 refine Y.r (.c .n) ?_
 refine Y.i (WS.a .z) ?_
 rintro⟨bv,bw,rfl,ec,ed,ee⟩
 refine Y.el rfl (bD rfl aFd rfl rfl) ?_
 rintro _ _ ⟨g45,rfl,rfl⟩
 refine Y.es (aE rfl) rfl (esW rfl (.t .z) (.t .g1) .z iX rfl rfl) ?_
 refine Y.nt (Y.seq (Y.seq (Y.region (Y.fa rfl .z vP (Y.ld rfl bR .z .z (Y.ql rfl (cC rfl (.t .z) .c) (Y.nil ?_)))))))
 refine Y.g ?_
 refine Y.ad (.t .z) (fun gx=> ?_) (fun gx=> ?_)
 refine Y.seq (Y.region (Y.ql rfl (qW rfl bN (.t (.s16 (.s16 .g4))) .g5 aX) (Y.fa rfl .g4 vP (Y.ld rfl bR .z .z ?_))))
 refine Y.cl rfl rfl Tryz.func172 rfl rfl (aR (.t .g2) (.t .z)) .n (fun _ _ hs tr=>gX (aM f (tr.ctx aa) (tr.ctx ab)) _) ?_
 rintro _ _ ⟨ip,iq,ir,it,rfl,rfl⟩
 refine Y.r (.c (.c (.c (.c .n)))) ?_
 refine Y.i (WS.a .z) ?_
 rintro⟨gy,gz,rfl,ef,eg,eh⟩
 refine Y.i (WS.a .g1) ?_
 rintro⟨g0,ha,rfl,ei,ej,ek⟩
 refine Y.i (WS.a .g2) ?_
 rintro⟨hb,hc,rfl,em,en,eo⟩
 refine Y.i (WS.a .g3) ?_
 rintro⟨hd,he,rfl,ep,et,eu⟩
 refine Y.es (aE rfl) rfl (esW rfl (.t (.s16 (.s16 .g6))) (.t .z) .g7 bA rfl rfl) ?_
 refine Y.nt (Y.ret (Y.m (Y.v (Y.m ?_))))
 refine Y.j (dA rfl (.s16 (.s16 .g6)) dO .z bA) (.c .g1 (.c .g1 (.c .g1 (.c .g1 .n)))) ?_
 exact⟨(⟨0,((pY f ((cR f c.path).1) c.frm c.size).code),0,[],[],(⟨f.inodes,f.data⟩:DFs)⟩:eB),(by first | exact hj | assumption),_,_,_,_,rfl,rfl⟩
 refine Y.skip (Y.g (Y.seq ?_))
 refine Y.sel (.c .g1 (.c .z (.c .z (.c .z (.c .z (.c .z .n)))))) ?_
 refine Y.dr .g1 8 gB ?_
 refine Y.sc (qs 0 6++ [(6,false),(7,true),(8,false)]) (by kernel_rfl) ?_
 refine Y.df rfl rfl .g1 .g3 sB (Y.dl rfl rfl .g1 lR .z .z (Y.dk rfl rfl .g1 (bE rfl fO (.t .z)) (Y.df rfl rfl .g1 .g6 sB (Y.dl rfl rfl .g1 lR .z .z (Y.dk rfl rfl .g1 (qW rfl bN (.t (.s16 (.s16 .g9))) .g4 aX) ?_)))))
 refine Y.call (aC rfl rfl) rfl (by decide) rfl (bF rfl Tryz.func67 rfl rfl (bH (.t .z))) .n (fun _ _ hs tr=>uY (aM f (tr.ctx aa) (tr.ctx ab))) ?_
 rintro _ _ ⟨iu,iv,rfl,rfl⟩
 refine Y.r (.c (.c .n)) ?_
 refine Y.i (WS.a .z) ?_
 rintro⟨bx,bz,rfl,ev,ew,ey⟩
 refine Y.i (WS.a .g1) ?_
 rintro⟨b0,b1,rfl,ez,e0,e1⟩
 refine Y.sk .g3 ?_
 refine Y.dk rfl rfl .g3 (aZ (cs:= [.int .i64 0,.int .i64 0,.int .i64 (((pY f ((cR f c.path).1) c.frm c.size).bytes).length:Int),.slice bv ((pY f ((cR f c.path).1) c.frm c.size).bytes).length bw,.slice none 0 0,.slice bx f.inodes.length bz,.slice b0 f.data.length b1]) rfl mD (pv3 (.t .g4) (.t .g2) (.t .z)) rfl) ?_
 refine Y.es (aC rfl rfl) rfl (esW rfl (.t (.s16 (.s16 .g10))) (.t .z) .g5 bA rfl rfl) ?_
 refine Y.sl rfl ?_
 refine Y.aa ?_
 refine Y.ai (by kernel_rfl) ?_
 refine Y.g (Y.ret (Y.v (Y.m ?_)))
 refine Y.add (c:=aG fJ [] [.slice none 0 0]) (fun w S=>aK w S none) ?_
 refine Y.j (dA rfl (.s16 (.s16 .g10)) dO .g1 bA) (.c .g4 (.c .z (.c .g1 (.c .g1 .n)))) ?_
 exact⟨(⟨0,0,(((pY f ((cR f c.path).1) c.frm c.size).bytes).length:Int),(pY f ((cR f c.path).1) c.frm c.size).bytes,[],(⟨f.inodes,f.data⟩:DFs)⟩:eB),(by first | exact hj | assumption),_,_,_,_,rfl,rfl⟩
 refine Y.seq (Y.region (Y.ql rfl (bP rfl (.t .g2) .c) (Y.as rfl .z (Y.nt ?_))))
 refine Y.u (.t .z) (fun hf=> ?_) (fun hf=> ?_)
 refine Y.region (Y.ql rfl (qW rfl bN (.t (.s16 .g11)) .g3 aX) (Y.mv rfl (.s16 .g3) (Y.fa rfl (.s16 .g12) aA5 (Y.ld rfl bR .z .g2 (Y.fa rfl (.s16 .g14) aGd (Y.ld rfl lR .z .g2 (Y.mv rfl (.s16 (.s16 .g4)) ?_)))))))
 refine Y.cl rfl rfl Tryz.func25 rfl rfl (aLa (.t .g6) (.t .g5) (.t .g3) (.t .g1) (.t .z)) .n (fun _ _ hs tr=>aNa (aM f (tr.ctx aa) (tr.ctx ab)) _ _ (tr.ctx a2) (tr.ctx h2)) ?_
 rintro _ _ ⟨iw,ix,rfl,rfl⟩
 refine Y.r (.c (.c .n)) ?_
 refine Y.i (WS.a .z) ?_
 rintro⟨hg,au,rfl,e2,e3,e4⟩
 refine Y.i (WS.a .g1) ?_
 rintro⟨a8,a9,rfl,e5,e7,e8⟩
 refine Y.es (aE rfl) rfl (esW rfl (.t .g14) (.t .z) .g2 fH rfl rfl) ?_
 refine Y.nil (Y.y (Y.g (Y.seq (Y.seq (Y.region (Y.fa rfl .g14 oL (Y.ld rfl bR .z .z (Y.ql rfl (cC rfl (.t .z) .c) ?_))))))))
 refine Y.nt ?_
 refine Y.ad (.t .z) (fun e9=> ?_) (fun e9=> ?_)
 refine Y.seq (Y.region (Y.ql rfl (qW rfl bN (.t (.s16 (.s16 .g6))) .g5 aX) (Y.fa rfl (.s16 .g2) oL (Y.ld rfl bR .z .z ?_))))
 refine Y.cl rfl rfl Tryz.func172 rfl rfl (aR (.t .g2) (.t .z)) .n (fun _ _ hs tr=>gX (aM f (tr.ctx aa) (tr.ctx ab)) _) ?_
 rintro _ _ ⟨iy,iz,i0,i1,rfl,rfl⟩
 refine Y.r (.c (.c (.c (.c .n)))) ?_
 refine Y.i (WS.a .z) ?_
 rintro⟨hh,hi,rfl,fb,fc,fd⟩
 refine Y.i (WS.a .g1) ?_
 rintro⟨hk,hl,rfl,fe,ff,fg⟩
 refine Y.i (WS.a .g2) ?_
 rintro⟨hm,hn,rfl,fh,fi,fj⟩
 refine Y.i (WS.a .g3) ?_
 rintro⟨ho,hp,rfl,fk,fl,fm⟩
 refine Y.es (aE rfl) rfl (esW rfl (.t (.s16 (.s16 .g8))) (.t .z) .g7 bA rfl rfl) ?_
 refine Y.nt (Y.ret (Y.m ?_))
 refine Y.j (dA rfl (.s16 (.s16 .g8)) dO .z bA) (.c .g1 (.c .g1 (.c .g1 (.c .g1 .n)))) ?_
 exact⟨(⟨0,((hX f ((cR f c.path).1) c.frm c.data b).code),0,[],[],(⟨f.inodes,f.data⟩:DFs)⟩:eB),(by first | exact hj | assumption),_,_,_,_,rfl,rfl⟩
 obtain⟨hJw,hJl⟩:=aHm hj e9
 refine Y.skip (Y.g (Y.seq ?_))
 refine Y.ab (.c .g1 .n) fN ?_
 rintro b2 ah
 obtain⟨al,af⟩:=aJ (xs:=(hX f ((cR f c.path).1) c.frm c.data b).fs.inodes) (j:=Int.toNat ((cR f c.path).1)) (by first | omega |(simp <;> omega))
 obtain⟨i2,av⟩:=aJ (xs:=b2) (j:=Int.toNat ((cR f c.path).1)) (by rw [ah];exact(List.getElem?_eq_some_iff.1 af).1)
 refine Y.aq .g1 (eD af av) ?_
 refine Y.ab (.c .z .n) eZ ?_
 rintro⟨i3,i4⟩ rfl
 refine Y.i (WS.a .z) ?_
 rintro⟨b3,b4,rfl,fn,fo,fp⟩
 refine Y.i (WS.a .g1) ?_
 rintro⟨b5,b6,rfl,fq,fr,ft⟩
 have hq:=cZ (i:=((cR f c.path).1)) af (by omega)
 have hr:=dD (a:=((cR f c.path).1)) af (by omega)
 have hu:=dZ (a:=((cR f c.path).1)) af (by omega)
 refine Y.dr .z 10 gB ?_
 refine Y.sc (qs 0 10++ [(10,false)]) (by kernel_rfl) ?_
 refine Y.df rfl rfl .z (.s16 .g1) lY (Y.dk rfl rfl .z (mA (k:=1) rfl (.t .z) (fun _=>aP _ _) rfl) (Y.dl rfl rfl .z bO .z .g5 (Y.dm rfl rfl .z (.s16 .g16) ?_)))
 refine Y.i (WS.h .g4 (by first | omega |(simp <;> omega) |(simp only [List.length_append,List.length_cons,List.length_nil,List.length_set] at *;omega))) ?_
 rintro⟨aw,rfl⟩
 refine Y.dk rfl rfl .z (aB (j:=Int.toNat ((cR f c.path).1)) rfl cI aU (.t .g1) (.t .z) (by omega) (by first | omega |(simp <;> omega))) ?_
 refine Y.df rfl rfl .z .z gH (Y.dk rfl rfl .z (aN rfl bR (.t .z) (WS.j .g4 av rfl)) (Y.df rfl rfl .z (.s16 .g8) lY (Y.dk rfl rfl .z (nF (cs:= [.slice (some aw) ((hX f ((cR f c.path).1) c.frm c.data b).fs.inodes).length au,.slice a8 ((hX f ((cR f c.path).1) c.frm c.data b).fs.data).length a9]) rfl bN aX (.t .z) (WS.r .g5 (uE rfl))) (Y.dk rfl rfl .z (aZ (cs:= [.int .i64 0,.int .i64 0,.int .i64 al.size,.slice none 0 0,.slice none 0 0,.slice (some aw) ((hX f ((cR f c.path).1) c.frm c.data b).fs.inodes).length au,.slice a8 ((hX f ((cR f c.path).1) c.frm c.data b).fs.data).length a9]) rfl mD (pv2 (.t .g2) (.t .z)) rfl) ?_))))
 refine Y.es (aC rfl rfl) rfl (esW rfl (.t (.s16 (.s16 .g14))) (.t .z) .g7 bA rfl rfl) ?_
 refine Y.sl rfl ?_
 refine Y.aa ?_
 refine Y.ai (by kernel_rfl) ?_
 refine Y.g (Y.ret ?_)
 refine Y.ac (c:=aG cA al [.int .i64 al.kind,.int .i64 al.links,.int .i64 al.size,.slice b3 al.blocks.length b4,.slice b5 al.ents.length b6]) (.c .g1 (.c .g1 .n)) (fun w S h=>cP al h) ?_
 refine Y.ac (c:=aG aW ((hX f ((cR f c.path).1) c.frm c.data b).fs.inodes) [.slice (some aw) ((hX f ((cR f c.path).1) c.frm c.data b).fs.inodes).length au]) (.c .g4 (.c .z (.c .g1 (.c .g1 .n)))) (eH (K:=cA) ah af av) ?_
 refine Y.add (c:=aG bX [] [.slice none 0 0]) (fun w S=>aK w S none) ?_
 refine Y.add (c:=aG fJ [] [.slice none 0 0]) (fun w S=>aK w S none) ?_
 refine Y.j (dA rfl (.s16 (.s16 .g14)) dO .g3 bA) (.c .g1 (.c .z (.c .z (.c .g2 .n)))) ?_
 exact⟨(⟨0,0,al.size,[],[],(⟨(hX f ((cR f c.path).1) c.frm c.data b).fs.inodes,(hX f ((cR f c.path).1) c.frm c.data b).fs.data⟩:DFs)⟩:eB),(by first | exact hj | assumption),_,_,_,_,rfl,rfl⟩
 refine Y.region (Y.ql rfl (qW rfl bN (.t (.s16 .g11)) .g3 aX) (Y.mv rfl (.s16 .g3) (Y.fa rfl (.s16 .g12) aBq (Y.ld rfl bR .z .g2 (Y.mv rfl (.s16 (.s16 .g2)) ?_)))))
 refine Y.cl rfl rfl Tryz.func28 rfl rfl (nO (.t .g4) (.t .g3) (.t .g1) (.t .z)) .n (fun _ _ hs tr=>aMi (aM f (tr.ctx aa) (tr.ctx ab)) _ _ (tr.ctx h2)) ?_
 rintro _ _ ⟨hv,hw,rfl,rfl⟩
 refine Y.r (.c (.c .n)) ?_
 refine Y.i (WS.a .z) ?_
 rintro⟨fu,ai,rfl,b7,b8,ca⟩
 refine Y.i (WS.a .g1) ?_
 rintro⟨am,an,rfl,cb,cc,cd⟩
 refine Y.es (aE rfl) rfl (esW rfl (.t .g12) (.t .z) .g2 fH rfl rfl) ?_
 refine Y.nil (Y.y (Y.g (Y.seq (Y.seq (Y.region (Y.fa rfl .g12 oL (Y.ld rfl bR .z .z (Y.ql rfl (cC rfl (.t .z) .c) ?_))))))))
 refine Y.nt ?_
 refine Y.ad (.t .z) (fun ba=> ?_) (fun ba=> ?_)
 refine Y.seq (Y.region (Y.ql rfl (qW rfl bN (.t (.s16 (.s16 .g4))) .g5 aX) (Y.fa rfl .g16 oL (Y.ld rfl bR .z .z ?_))))
 refine Y.cl rfl rfl Tryz.func172 rfl rfl (aR (.t .g2) (.t .z)) .n (fun _ _ hs tr=>gX (aM f (tr.ctx aa) (tr.ctx ab)) _) ?_
 rintro _ _ ⟨hx,hy,hz,h3,rfl,rfl⟩
 refine Y.r (.c (.c (.c (.c .n)))) ?_
 refine Y.i (WS.a .z) ?_
 rintro⟨fv,fw,rfl,ce,cf,cg⟩
 refine Y.i (WS.a .g1) ?_
 rintro⟨fx,fy,rfl,ch,ci,cj⟩
 refine Y.i (WS.a .g2) ?_
 rintro⟨fz,f0,rfl,ck,cm,cn⟩
 refine Y.i (WS.a .g3) ?_
 rintro⟨f1,f2,rfl,co,cp,cq⟩
 refine Y.es (aE rfl) rfl (esW rfl (.t (.s16 (.s16 .g6))) (.t .z) .g7 bA rfl rfl) ?_
 refine Y.nt (Y.ret (Y.m ?_))
 refine Y.j (dA rfl (.s16 (.s16 .g6)) dO .z bA) (.c .g1 (.c .g1 (.c .g1 (.c .g1 .n)))) ?_
 exact⟨(⟨0,((gW f ((cR f c.path).1) c.size b).code),0,[],[],(⟨f.inodes,f.data⟩:DFs)⟩:eB),(by first | exact hj | assumption),_,_,_,_,rfl,rfl⟩
 obtain⟨hJw,hJl⟩:=aLh hj ba
 refine Y.skip (Y.g (Y.seq ?_))
 refine Y.ab (.c .g1 .n) fN ?_
 rintro bb ae
 obtain⟨ad,ac⟩:=aJ (xs:=(gW f ((cR f c.path).1) c.size b).fs.inodes) (j:=Int.toNat ((cR f c.path).1)) (by first | omega |(simp <;> omega))
 obtain⟨h4,aj⟩:=aJ (xs:=bb) (j:=Int.toNat ((cR f c.path).1)) (by rw [ae];exact(List.getElem?_eq_some_iff.1 ac).1)
 refine Y.aq .g1 (eD ac aj) ?_
 refine Y.ab (.c .z .n) eZ ?_
 rintro⟨h5,h6⟩ rfl
 refine Y.i (WS.a .z) ?_
 rintro⟨bc,bd,rfl,cr,ct,cu⟩
 refine Y.i (WS.a .g1) ?_
 rintro⟨be,bf,rfl,cv,cw,cx⟩
 have f3:=cZ (i:=((cR f c.path).1)) ac (by omega)
 have f4:=dD (a:=((cR f c.path).1)) ac (by omega)
 have f5:=dZ (a:=((cR f c.path).1)) ac (by omega)
 refine Y.dr .z 10 gB ?_
 refine Y.sc (qs 0 10++ [(10,false)]) (by kernel_rfl) ?_
 refine Y.df rfl rfl .z .g15 lY (Y.dk rfl rfl .z (mA (k:=1) rfl (.t .z) (fun _=>aP _ _) rfl) (Y.dl rfl rfl .z bO .z .g5 (Y.dm rfl rfl .z (.s16 .g14) ?_)))
 refine Y.i (WS.h .g4 (by first | omega |(simp <;> omega) |(simp only [List.length_append,List.length_cons,List.length_nil,List.length_set] at *;omega))) ?_
 rintro⟨ak,rfl⟩
 refine Y.dk rfl rfl .z (aB (j:=Int.toNat ((cR f c.path).1)) rfl cI aU (.t .g1) (.t .z) (by omega) (by first | omega |(simp <;> omega))) ?_
 refine Y.df rfl rfl .z .z gH (Y.dk rfl rfl .z (aN rfl bR (.t .z) (WS.j .g4 aj rfl)) (Y.df rfl rfl .z (.s16 .g6) lY (Y.dk rfl rfl .z (nF (cs:= [.slice (some ak) ((gW f ((cR f c.path).1) c.size b).fs.inodes).length ai,.slice am ((gW f ((cR f c.path).1) c.size b).fs.data).length an]) rfl bN aX (.t .z) (WS.r .g5 (uE rfl))) (Y.dk rfl rfl .z (aZ (cs:= [.int .i64 0,.int .i64 0,.int .i64 ad.size,.slice none 0 0,.slice none 0 0,.slice (some ak) ((gW f ((cR f c.path).1) c.size b).fs.inodes).length ai,.slice am ((gW f ((cR f c.path).1) c.size b).fs.data).length an]) rfl mD (pv2 (.t .g2) (.t .z)) rfl) ?_))))
 refine Y.es (aC rfl rfl) rfl (esW rfl (.t (.s16 (.s16 .g12))) (.t .z) .g7 bA rfl rfl) ?_
 refine Y.sl rfl ?_
 refine Y.aa ?_
 refine Y.ai (by kernel_rfl) ?_
 refine Y.g (Y.ret ?_)
 refine Y.ac (c:=aG cA ad [.int .i64 ad.kind,.int .i64 ad.links,.int .i64 ad.size,.slice bc ad.blocks.length bd,.slice be ad.ents.length bf]) (.c .g1 (.c .g1 .n)) (fun w S h=>cP ad h) ?_
 refine Y.ac (c:=aG aW ((gW f ((cR f c.path).1) c.size b).fs.inodes) [.slice (some ak) ((gW f ((cR f c.path).1) c.size b).fs.inodes).length ai]) (.c .g4 (.c .z (.c .g1 (.c .g1 .n)))) (eH (K:=cA) ae ac aj) ?_
 refine Y.add (c:=aG bX [] [.slice none 0 0]) (fun w S=>aK w S none) ?_
 refine Y.add (c:=aG fJ [] [.slice none 0 0]) (fun w S=>aK w S none) ?_
 refine Y.j (dA rfl (.s16 (.s16 .g12)) dO .g3 bA) (.c .g1 (.c .z (.c .z (.c .g2 .n)))) ?_
 exact⟨(⟨0,0,ad.size,[],[],(⟨(gW f ((cR f c.path).1) c.size b).fs.inodes,(gW f ((cR f c.path).1) c.size b).fs.data⟩:DFs)⟩:eB),(by first | exact hj | assumption),_,_,_,_,rfl,rfl⟩

end Go.Proofs.YtmejbfmhaoilmaaGreat

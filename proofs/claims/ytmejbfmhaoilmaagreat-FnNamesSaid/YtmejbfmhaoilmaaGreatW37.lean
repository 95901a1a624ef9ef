/- What is proved: contracts of functions, one a function. No condition. -/
import Derived.Test.YtmejbfmhaoilmaaGreatBase1
import Derived.Test.YtmejbfmhaoilmaaGreatW36
import Derived.Test.YtmejbfmhaoilmaaGreatBase2
namespace Go.Proofs.YtmejbfmhaoilmaaGreat
open Go Go.RowKit
set_option linter.unusedVariables false
set_option linter.unusedSimpArgs false
set_option maxHeartbeats 1000000
set_option maxRecDepth 20000
theorem yZ {w0:World}{S0:Bs}{x:(List aQ)}{v0:Value} (h0:cP.ro w0 (FF w0 S0) x [v0]) {e:aQ}{aq:List Value} (h1:gH.ro w0 (FF w0 S0) e aq) (d0:x.length≤6):
    Calls Tryz.prog 128 #[v0,.agg aq.toArray] w0 (aJ w0 S0 (fun r l=>l= [aG cP (dL x e) [r]])):=by
 obtain⟨A0,c0,rfl,d1,d2,d3,cf⟩:=aH h0
 obtain⟨rfl,cg⟩:=eR h1
 refine Y.enter (N:=34) Tryz.func128 rfl rfl (by simp) [(0,.slice A0 x.length c0),(1,.agg #[.string e.name,.int .i64 e.ino])] (by simp) (l0:= []) trivial ?_
 refine Y.seq (Y.region ?_)
 refine Y.el rfl (fT (cs:= [.string e.name,.int .i64 e.ino]) (n:=2) rfl (.t .g1) rfl rfl) ?_
 rintro _ _ ⟨g2,rfl,rfl⟩
 refine Y.ql rfl (aA rfl .c) (Y.nt (Y.seq (Y.region (Y.ql rfl (aA rfl .c) (Y.nt (Y.seq ?_))))))
 refine Y.block ?_
 refine Y.aj (γ:=Nat) (fun q=> [(5,.int .i64 (q:Int)),(4,.slice none 0 0),(3,.pointer (some ⟨g2,0,none⟩)),(0,.slice A0 x.length c0)]) (fun q=> [cM g2 46 2 1 [.string e.name,.int .i64 e.ino]]) (fun q=>q≤x.length∧∀(j:Nat) (y:aQ),j<q→x[j]? =some y→sLt y.name e.name=true) (fun q=>x.length - q) 0 ⟨Nat.zero_le _,eV (q:=fun _ (y:aQ)=>sLt y.name e.name=true)⟩ (.c .z (.c .g1 (.c .g2 (.c .g3 .n)))) (fun _ h=>h.sel (.c .z .n)) ?_
 rintro q ⟨hq,hallq⟩
 refine Y.seq (Y.seq ?_)
 have ag:(fY x 0 q).length=q - 0:=fR (by omega)
 refine Y.dr .z 14 gG ?_
 refine Y.sc (qs 0 5) (by kernel_rfl) ?_
 refine Y.dm rfl rfl .z .z (Y.dm rfl rfl .z .g4 (Y.dk rfl rfl .z (bM rfl cZ (.t .z)) (Y.dk rfl rfl .z (dJ rfl (.t .g2) (.t .z)) (Y.dm rfl rfl .z .z (Y.aa ?_)))))
 refine Y.al .z (fun g3=> ?_) (fun g3=> ?_)
 refine Y.sc (qs 5 9) (by kernel_rfl) ?_
 refine Y.ah rfl rfl rfl .z rfl (by decide) rfl .z (aV rfl (.t .g8)) ?_
 refine Y.ah rfl rfl rfl .g1 rfl (by decide) rfl .z (aV rfl (.t .g6)) ?_
 obtain⟨al,ah,ai⟩:=cf (by omega)
 subst ah
 obtain⟨x5,aj⟩:=aI (xs:=x) (j:=q) (by omega)
 obtain⟨ch,am,an,ao⟩:=ai.elem aj
 obtain⟨rfl,ar⟩:=eR am
 refine Y.ah rfl rfl rfl .g2 rfl (by decide) rfl .z (aC (j:=q) rfl cZ dV (.t .g1) (.t .z) rfl (by omega)) ?_
 refine Y.ah rfl rfl rfl .g3 rfl (by decide) rfl .z (aK rfl (.t .z) (fun _=>jP _ _)) ?_
 refine Y.ah rfl rfl rfl .g4 rfl (by decide) rfl .z (aL rfl iR (.t .z) (WS.el an ao rfl)) ?_
 refine Y.ah rfl rfl rfl .g5 rfl (by decide) rfl .z (aK rfl (.t .g12) (fun _=>jP _ _)) ?_
 refine Y.ah rfl rfl rfl .g6 rfl (by decide) rfl .z (aL rfl iR (.t .z) (WS.g .z rfl)) ?_
 refine Y.ah rfl rfl rfl .g7 rfl (by decide) rfl .z (aHp rfl (.t .g2) (.t .z)) ?_
 refine Y.dk rfl rfl .z (bO rfl (.t .g8) (.t .z)) (Y.aa ?_)
 refine Y.ag (by kernel_rfl) ?_
 refine Y.g ?_
 refine Y.cond (.t .z) (fun b7=> ?_) (fun b7=> ?_)
 refine Y.skip (Y.g (Y.block (Y.region (Y.mv rfl .g14 ?_))))
 refine Y.ql rfl (bQ (c:=((q+1:Nat):Int)) rfl (.t .z) .c (wr (by omega) (by omega) (by omega))) ?_
 refine Y.er .g16 (Y.as rfl .z (Y.nil (Y.ac ?_)))
 refine Y.ae (q+1) ⟨by omega,eM (q:=fun _ (y:aQ)=>sLt y.name e.name=true) hallq aj (by assumption)⟩ (by first | omega |(dsimp only;omega)) (.c .z (.c (.s16 .g1) (.c (.s16 .g2) (.c (.s16 .g3) .n)))) (fun _ h=>h.sel (.c .z .n))
 refine Y.exit (Y.ab (Y.ab (Y.ai (Y.g (Y.seq ?_)))))
 have ag:(fY x 0 q).length=q - 0:=fR (by omega)
 refine Y.dr .z 12 gG ?_
 refine Y.sc (qs 1 3++ [(5,true)]++qs 8 3) (by kernel_rfl) ?_
 refine Y.dm rfl rfl .z (.s16 .g1) (Y.dm rfl rfl .z .g15 ?_)
 obtain⟨d4,ak⟩:∃A':Option Addr,A'=(if c0=0 then(some al)else Option.map (fun z=>Addr.add z (0 * 2)) (some al)):=⟨_,rfl⟩
 have ap:=nK (a:=0) (b:=q) ak h0 (by omega) (by omega)
 have d5:=fR (xs:=x) (a:=0) (b:=q) (by omega)
 refine Y.dk rfl rfl .z (iN (a:=0) (b:=q) rfl cZ dV (.t .g1) ak (.inl ⟨rfl,rfl⟩) (.inr ⟨_,_,rfl,(.t .z)⟩) (by omega) (by omega) (by omega)) ?_
 refine Y.dk rfl rfl .z (qW rfl pU (.t (.s16 .g3)) .z dV) (Y.dm rfl rfl .z (.s16 .g5) (Y.dm rfl rfl .z (.s16 .g3) ?_))
 obtain⟨ci,aa⟩:∃A':Option Addr,A'=(if c0=q then(some al)else Option.map (fun z=>Addr.add z (q * 2)) (some al)):=⟨_,rfl⟩
 have ad:=nK (a:=q) (b:=x.length) aa h0 (by omega) (by omega)
 have cj:=fR (xs:=x) (a:=q) (b:=x.length) (by omega)
 refine Y.dk rfl rfl .z (iN (a:=q) (b:=x.length) rfl cZ dV (.t .g1) aa (.inr ⟨_,_,rfl,(.t .z)⟩) (.inl ⟨rfl,rfl⟩) (by omega) (by omega) (by omega)) ?_
 refine Y.aa ?_
 refine Y.au (i:=0) (j:=6) (by kernel_rfl) ?_ ?_
 refine Y.e (aE rfl rfl) rfl (by decide) rfl (eH rfl cZ (inz eF)) ?_
 rintro _ _ ⟨g12,rfl,rfl⟩
 refine Y.sk .g1 ?_
 refine Y.aa ?_
 refine Y.sc [] (by kernel_rfl) ?_
 refine Y.aa ?_
 refine Y.au (i:=4) (j:=6) (by kernel_rfl) ?_ ?_
 refine Y.add (c:=aG cP ([]:(List aQ)) [.slice (some ⟨g12,0,none⟩) 0 0]) (fun w S=>aN w S _) ?_
 refine Y.e (aE rfl rfl) rfl (by decide) rfl (eG (fS _ (eX (bC _ _ _) (bC _ _ _))) rfl cZ eF rfl (.t .z) (.t .g5) (.c .z .n) (fun w1 S1 tr=>tr.ctx ap) (by first | omega |(simp only [List.length_append,List.length_take,List.length_nil,List.length_cons];omega)) (by first | omega |(simp only [List.length_append,List.length_take,List.length_nil,List.length_cons];omega))) ?_
 rintro _ _ rfl
 refine Y.af .z (List.nil_append _) ?_
 refine Y.h (WS.a .z) ?_
 rintro⟨ck,cm,rfl,au,av,aw⟩
 refine Y.sk .g2 ?_
 refine Y.aa ?_
 refine Y.sc [(6,false),(7,false),(11,false),(12,false)] (by kernel_rfl) ?_
 refine Y.e (aE rfl rfl) rfl (by decide) rfl (aS (cs:= [.string e.name,.int .i64 e.ino]) rfl cZ (inz eF) (by decide) (pv1 (.t .g5)) rfl rfl (by decide) rfl rfl) ?_
 rintro _ _ ⟨g15,rfl,rfl⟩
 refine Y.sk .g3 ?_
 refine Y.v (c:=aG gH (⟨e.name,e.ino⟩:aQ) [.string e.name,.int .i64 e.ino]) .n (fun w S h=>fH (⟨e.name,e.ino⟩:aQ) h (by assumption)) ?_
 refine Y.e (aE rfl rfl) rfl (by decide) rfl (dU rfl cZ eF rfl (.t .g1) (.t .z) (.c .g2 (.c .g1 (.c .z .n))) (by first | omega |(simp only [List.length_append,List.length_take,List.length_nil,List.length_cons];omega)) (by first | omega |(simp only [List.length_append,List.length_take,List.length_nil,List.length_cons];omega))) ?_
 rintro _ _ rfl
 refine Y.h (WS.a .z) ?_
 rintro⟨cn,co,rfl,ax,ay,az⟩
 refine Y.sk .g2 ?_
 refine Y.e (aE rfl rfl) rfl (by decide) rfl (eG (fS _ (eX (bC _ _ _) (bC _ _ _))) rfl cZ eF rfl (.t .z) (.t .g4) (.c .z .n) (fun w1 S1 tr=>tr.ctx ad) (by first | omega |(simp only [List.length_append,List.length_take,List.length_nil,List.length_cons];omega)) (by first | omega |(simp only [List.length_append,List.length_take,List.length_nil,List.length_cons];omega))) ?_
 rintro _ _ rfl
 refine Y.h (WS.a .z) ?_
 rintro⟨cp,cq,rfl,a0,a1,a2⟩
 refine Y.sk .g2 ?_
 refine Y.er (.s16 .g11) ?_
 refine Y.q (aE rfl rfl) rfl (by decide) rfl (aA rfl (.t .z)) ?_
 refine Y.sl rfl ?_
 refine Y.aa ?_
 refine Y.ag (by kernel_rfl) ?_
 refine Y.g (Y.ret ?_)
 refine Y.af (x':=dL x e) .z (by rw [←oQ (nQ hallq hq (.inr ⟨_,aj,by first | assumption | simp_all⟩))];simp [fY]) ?_
 refine Y.i (aY rfl .z) (.c .z .n) ?_
 rfl
 refine Y.e (aE rfl rfl) rfl (by decide) rfl (aS (cs:= [.string e.name,.int .i64 e.ino]) rfl cZ (inz eF) (by decide) (pv1 (.t .g4)) rfl rfl (by decide) rfl rfl) ?_
 rintro _ _ ⟨g19,rfl,rfl⟩
 refine Y.sk .g2 ?_
 refine Y.aa ?_
 refine Y.sc [(4,false),(7,false),(11,false),(12,false)] (by kernel_rfl) ?_
 refine Y.add (c:=aG cP ([]:(List aQ)) [.slice (some ⟨g12,0,none⟩) 0 0]) (fun w S=>aN w S _) ?_
 refine Y.e (aE rfl rfl) rfl (by decide) rfl (eG (fS _ (eX (bC _ _ _) (bC _ _ _))) rfl cZ eF rfl (.t .g1) (.t .g6) (.c .z .n) (fun w1 S1 tr=>tr.ctx ap) (by first | omega |(simp only [List.length_append,List.length_take,List.length_nil,List.length_cons];omega)) (by first | omega |(simp only [List.length_append,List.length_take,List.length_nil,List.length_cons];omega))) ?_
 rintro _ _ rfl
 refine Y.af .z (List.nil_append _) ?_
 refine Y.h (WS.a .z) ?_
 rintro⟨cr,ct,rfl,a3,a4,a5⟩
 refine Y.sk .g3 ?_
 refine Y.v (c:=aG gH (⟨e.name,e.ino⟩:aQ) [.string e.name,.int .i64 e.ino]) .n (fun w S h=>fH (⟨e.name,e.ino⟩:aQ) h (by assumption)) ?_
 refine Y.e (aE rfl rfl) rfl (by decide) rfl (dU rfl cZ eF rfl (.t .z) (.t .g1) (.c .g1 (.c .g1 (.c .z .n))) (by first | omega |(simp only [List.length_append,List.length_take,List.length_nil,List.length_cons];omega)) (by first | omega |(simp only [List.length_append,List.length_take,List.length_nil,List.length_cons];omega))) ?_
 rintro _ _ rfl
 refine Y.h (WS.a .z) ?_
 rintro⟨cu,cv,rfl,a6,a7,a8⟩
 refine Y.sk .g2 ?_
 refine Y.e (aE rfl rfl) rfl (by decide) rfl (eG (fS _ (eX (bC _ _ _) (bC _ _ _))) rfl cZ eF rfl (.t .z) (.t .g4) (.c .z .n) (fun w1 S1 tr=>tr.ctx ad) (by first | omega |(simp only [List.length_append,List.length_take,List.length_nil,List.length_cons];omega)) (by first | omega |(simp only [List.length_append,List.length_take,List.length_nil,List.length_cons];omega))) ?_
 rintro _ _ rfl
 refine Y.h (WS.a .z) ?_
 rintro⟨cw,cx,rfl,a9,ba,bb⟩
 refine Y.sk .g2 ?_
 refine Y.er (.s16 .g11) ?_
 refine Y.q (aE rfl rfl) rfl (by decide) rfl (aA rfl (.t .z)) ?_
 refine Y.sl rfl ?_
 refine Y.aa ?_
 refine Y.ag (by kernel_rfl) ?_
 refine Y.g (Y.ret ?_)
 refine Y.af (x':=dL x e) .z (by rw [←oQ (nQ hallq hq (.inr ⟨_,aj,by first | assumption | simp_all⟩))];simp [fY]) ?_
 refine Y.i (aY rfl .z) (.c .z .n) ?_
 rfl
 refine Y.e (aE rfl rfl) rfl (by decide) rfl (aS (cs:= [.string e.name,.int .i64 e.ino]) rfl cZ (inz eF) (by decide) (pv1 (.t .g3)) rfl rfl (by decide) rfl rfl) ?_
 rintro _ _ ⟨g25,rfl,rfl⟩
 refine Y.sk .g1 ?_
 refine Y.aa ?_
 refine Y.sc [(0,false),(4,false),(7,false),(11,false),(12,false)] (by kernel_rfl) ?_
 refine Y.e (aE rfl rfl) rfl (by decide) rfl (eH rfl cZ (inz eF)) ?_
 rintro _ _ ⟨g26,rfl,rfl⟩
 refine Y.sk .g2 ?_
 refine Y.add (c:=aG cP ([]:(List aQ)) [.slice (some ⟨g26,0,none⟩) 0 0]) (fun w S=>aN w S _) ?_
 refine Y.e (aE rfl rfl) rfl (by decide) rfl (eG (fS _ (eX (bC _ _ _) (bC _ _ _))) rfl cZ eF rfl (.t .z) (.t .g6) (.c .z .n) (fun w1 S1 tr=>tr.ctx ap) (by first | omega |(simp only [List.length_append,List.length_take,List.length_nil,List.length_cons];omega)) (by first | omega |(simp only [List.length_append,List.length_take,List.length_nil,List.length_cons];omega))) ?_
 rintro _ _ rfl
 refine Y.af .z (List.nil_append _) ?_
 refine Y.h (WS.a .z) ?_
 rintro⟨cy,cz,rfl,bc,bd,be⟩
 refine Y.sk .g3 ?_
 refine Y.v (c:=aG gH (⟨e.name,e.ino⟩:aQ) [.string e.name,.int .i64 e.ino]) .n (fun w S h=>fH (⟨e.name,e.ino⟩:aQ) h (by assumption)) ?_
 refine Y.e (aE rfl rfl) rfl (by decide) rfl (dU rfl cZ eF rfl (.t .z) (.t .g2) (.c .g1 (.c .g2 (.c .z .n))) (by first | omega |(simp only [List.length_append,List.length_take,List.length_nil,List.length_cons];omega)) (by first | omega |(simp only [List.length_append,List.length_take,List.length_nil,List.length_cons];omega))) ?_
 rintro _ _ rfl
 refine Y.h (WS.a .z) ?_
 rintro⟨c1,c2,rfl,bf,bg,bh⟩
 refine Y.sk .g2 ?_
 refine Y.e (aE rfl rfl) rfl (by decide) rfl (eG (fS _ (eX (bC _ _ _) (bC _ _ _))) rfl cZ eF rfl (.t .z) (.t .g4) (.c .z .n) (fun w1 S1 tr=>tr.ctx ad) (by first | omega |(simp only [List.length_append,List.length_take,List.length_nil,List.length_cons];omega)) (by first | omega |(simp only [List.length_append,List.length_take,List.length_nil,List.length_cons];omega))) ?_
 rintro _ _ rfl
 refine Y.h (WS.a .z) ?_
 rintro⟨c3,c4,rfl,bi,bj,bk⟩
 refine Y.sk .g2 ?_
 refine Y.er (.s16 .g11) ?_
 refine Y.q (aE rfl rfl) rfl (by decide) rfl (aA rfl (.t .z)) ?_
 refine Y.sl rfl ?_
 refine Y.aa ?_
 refine Y.ag (by kernel_rfl) ?_
 refine Y.g (Y.ret ?_)
 refine Y.af (x':=dL x e) .z (by rw [←oQ (nQ hallq hq (.inr ⟨_,aj,by first | assumption | simp_all⟩))];simp [fY]) ?_
 refine Y.i (aY rfl .z) (.c .z .n) ?_
 rfl
 refine Y.sc (qs 5 8++ [(13,false)]) (by kernel_rfl) ?_
 refine Y.am rfl rfl rfl .z rfl rfl (by decide) rfl .z ?_
 refine Y.am rfl rfl rfl .g1 rfl rfl (by decide) rfl .z ?_
 refine Y.am rfl rfl rfl .g2 rfl rfl (by decide) rfl .z ?_
 refine Y.am rfl rfl rfl .g3 rfl rfl (by decide) rfl .z ?_
 refine Y.am rfl rfl rfl .g4 rfl rfl (by decide) rfl .z ?_
 refine Y.am rfl rfl rfl .g5 rfl rfl (by decide) rfl .z ?_
 refine Y.am rfl rfl rfl .g6 rfl rfl (by decide) rfl .z ?_
 refine Y.am rfl rfl rfl .g7 rfl rfl (by decide) rfl .z ?_
 refine Y.q (aE rfl rfl) rfl (by decide) rfl (bW rfl (.t .g8) .c) ?_
 refine Y.sk .z ?_
 refine Y.aa ?_
 refine Y.ag (by kernel_rfl) ?_
 refine Y.g ?_
 refine Y.ar (.t .z) ?_
 refine Y.exit (Y.ab (Y.ab (Y.ai (Y.g (Y.seq ?_)))))
 have ag:(fY x 0 q).length=q - 0:=fR (by omega)
 refine Y.dr .z 12 gG ?_
 refine Y.sc (qs 1 3++ [(5,true)]++qs 8 3) (by kernel_rfl) ?_
 refine Y.dm rfl rfl .z (.s16 .g1) (Y.dm rfl rfl .z .g15 ?_)
 obtain⟨c5,ab⟩:∃A':Option Addr,A'=(if c0=0 then A0 else Option.map (fun z=>Addr.add z (0 * 2)) A0):=⟨_,rfl⟩
 have ae:=nK (a:=0) (b:=q) ab h0 (by omega) (by omega)
 have c6:=fR (xs:=x) (a:=0) (b:=q) (by omega)
 refine Y.dk rfl rfl .z (iN (a:=0) (b:=q) rfl cZ dV (.t .g1) ab (.inl ⟨rfl,rfl⟩) (.inr ⟨_,_,rfl,(.t .z)⟩) (by omega) (by omega) (by omega)) ?_
 refine Y.dk rfl rfl .z (qW rfl pU (.t (.s16 .g3)) .z dV) (Y.dm rfl rfl .z (.s16 .g5) (Y.dm rfl rfl .z (.s16 .g3) ?_))
 obtain⟨c7,ac⟩:∃A':Option Addr,A'=(if c0=q then A0 else Option.map (fun z=>Addr.add z (q * 2)) A0):=⟨_,rfl⟩
 have af:=nK (a:=q) (b:=x.length) ac h0 (by omega) (by omega)
 have c8:=fR (xs:=x) (a:=q) (b:=x.length) (by omega)
 refine Y.dk rfl rfl .z (iN (a:=q) (b:=x.length) rfl cZ dV (.t .g1) ac (.inr ⟨_,_,rfl,(.t .z)⟩) (.inl ⟨rfl,rfl⟩) (by omega) (by omega) (by omega)) ?_
 refine Y.aa ?_
 refine Y.au (i:=0) (j:=6) (by kernel_rfl) ?_ ?_
 refine Y.e (aE rfl rfl) rfl (by decide) rfl (eH rfl cZ (inz eF)) ?_
 rintro _ _ ⟨g36,rfl,rfl⟩
 refine Y.sk .g1 ?_
 refine Y.aa ?_
 refine Y.sc [] (by kernel_rfl) ?_
 refine Y.aa ?_
 refine Y.au (i:=4) (j:=6) (by kernel_rfl) ?_ ?_
 refine Y.add (c:=aG cP ([]:(List aQ)) [.slice (some ⟨g36,0,none⟩) 0 0]) (fun w S=>aN w S _) ?_
 refine Y.e (aE rfl rfl) rfl (by decide) rfl (eG (fS _ (eX (bC _ _ _) (bC _ _ _))) rfl cZ eF rfl (.t .z) (.t .g5) (.c .z .n) (fun w1 S1 tr=>tr.ctx ae) (by first | omega |(simp only [List.length_append,List.length_take,List.length_nil,List.length_cons];omega)) (by first | omega |(simp only [List.length_append,List.length_take,List.length_nil,List.length_cons];omega))) ?_
 rintro _ _ rfl
 refine Y.af .z (List.nil_append _) ?_
 refine Y.h (WS.a .z) ?_
 rintro⟨c9,da,rfl,bm,bn,bo⟩
 refine Y.sk .g2 ?_
 refine Y.aa ?_
 refine Y.sc [(6,false),(7,false),(11,false),(12,false)] (by kernel_rfl) ?_
 refine Y.e (aE rfl rfl) rfl (by decide) rfl (aS (cs:= [.string e.name,.int .i64 e.ino]) rfl cZ (inz eF) (by decide) (pv1 (.t .g5)) rfl rfl (by decide) rfl rfl) ?_
 rintro _ _ ⟨g39,rfl,rfl⟩
 refine Y.sk .g3 ?_
 refine Y.v (c:=aG gH (⟨e.name,e.ino⟩:aQ) [.string e.name,.int .i64 e.ino]) .n (fun w S h=>fH (⟨e.name,e.ino⟩:aQ) h (by assumption)) ?_
 refine Y.e (aE rfl rfl) rfl (by decide) rfl (dU rfl cZ eF rfl (.t .g1) (.t .z) (.c .g2 (.c .g1 (.c .z .n))) (by first | omega |(simp only [List.length_append,List.length_take,List.length_nil,List.length_cons];omega)) (by first | omega |(simp only [List.length_append,List.length_take,List.length_nil,List.length_cons];omega))) ?_
 rintro _ _ rfl
 refine Y.h (WS.a .z) ?_
 rintro⟨db,dc,rfl,bp,bq,br⟩
 refine Y.sk .g2 ?_
 refine Y.e (aE rfl rfl) rfl (by decide) rfl (eG (fS _ (eX (bC _ _ _) (bC _ _ _))) rfl cZ eF rfl (.t .z) (.t .g4) (.c .z .n) (fun w1 S1 tr=>tr.ctx af) (by first | omega |(simp only [List.length_append,List.length_take,List.length_nil,List.length_cons];omega)) (by first | omega |(simp only [List.length_append,List.length_take,List.length_nil,List.length_cons];omega))) ?_
 rintro _ _ rfl
 refine Y.h (WS.a .z) ?_
 rintro⟨dd,dg,rfl,bs,bt,bu⟩
 refine Y.sk .g2 ?_
 refine Y.er (.s16 .g11) ?_
 refine Y.q (aE rfl rfl) rfl (by decide) rfl (aA rfl (.t .z)) ?_
 refine Y.sl rfl ?_
 refine Y.aa ?_
 refine Y.ag (by kernel_rfl) ?_
 refine Y.g (Y.ret ?_)
 refine Y.af (x':=dL x e) .z (by rw [←oQ (nQ hallq hq (.inl (by omega)))];simp [fY]) ?_
 refine Y.i (aY rfl .z) (.c .z .n) ?_
 rfl
 refine Y.e (aE rfl rfl) rfl (by decide) rfl (aS (cs:= [.string e.name,.int .i64 e.ino]) rfl cZ (inz eF) (by decide) (pv1 (.t .g4)) rfl rfl (by decide) rfl rfl) ?_
 rintro _ _ ⟨g43,rfl,rfl⟩
 refine Y.sk .g2 ?_
 refine Y.aa ?_
 refine Y.sc [(4,false),(7,false),(11,false),(12,false)] (by kernel_rfl) ?_
 refine Y.add (c:=aG cP ([]:(List aQ)) [.slice (some ⟨g36,0,none⟩) 0 0]) (fun w S=>aN w S _) ?_
 refine Y.e (aE rfl rfl) rfl (by decide) rfl (eG (fS _ (eX (bC _ _ _) (bC _ _ _))) rfl cZ eF rfl (.t .g1) (.t .g6) (.c .z .n) (fun w1 S1 tr=>tr.ctx ae) (by first | omega |(simp only [List.length_append,List.length_take,List.length_nil,List.length_cons];omega)) (by first | omega |(simp only [List.length_append,List.length_take,List.length_nil,List.length_cons];omega))) ?_
 rintro _ _ rfl
 refine Y.af .z (List.nil_append _) ?_
 refine Y.h (WS.a .z) ?_
 rintro⟨dh,di,rfl,bv,bw,bx⟩
 refine Y.sk .g3 ?_
 refine Y.v (c:=aG gH (⟨e.name,e.ino⟩:aQ) [.string e.name,.int .i64 e.ino]) .n (fun w S h=>fH (⟨e.name,e.ino⟩:aQ) h (by assumption)) ?_
 refine Y.e (aE rfl rfl) rfl (by decide) rfl (dU rfl cZ eF rfl (.t .z) (.t .g1) (.c .g1 (.c .g1 (.c .z .n))) (by first | omega |(simp only [List.length_append,List.length_take,List.length_nil,List.length_cons];omega)) (by first | omega |(simp only [List.length_append,List.length_take,List.length_nil,List.length_cons];omega))) ?_
 rintro _ _ rfl
 refine Y.h (WS.a .z) ?_
 rintro⟨dj,dp,rfl,bz,b0,b1⟩
 refine Y.sk .g2 ?_
 refine Y.e (aE rfl rfl) rfl (by decide) rfl (eG (fS _ (eX (bC _ _ _) (bC _ _ _))) rfl cZ eF rfl (.t .z) (.t .g4) (.c .z .n) (fun w1 S1 tr=>tr.ctx af) (by first | omega |(simp only [List.length_append,List.length_take,List.length_nil,List.length_cons];omega)) (by first | omega |(simp only [List.length_append,List.length_take,List.length_nil,List.length_cons];omega))) ?_
 rintro _ _ rfl
 refine Y.h (WS.a .z) ?_
 rintro⟨ds,dt,rfl,b2,b3,b4⟩
 refine Y.sk .g2 ?_
 refine Y.er (.s16 .g11) ?_
 refine Y.q (aE rfl rfl) rfl (by decide) rfl (aA rfl (.t .z)) ?_
 refine Y.sl rfl ?_
 refine Y.aa ?_
 refine Y.ag (by kernel_rfl) ?_
 refine Y.g (Y.ret ?_)
 refine Y.af (x':=dL x e) .z (by rw [←oQ (nQ hallq hq (.inl (by omega)))];simp [fY]) ?_
 refine Y.i (aY rfl .z) (.c .z .n) ?_
 rfl
 refine Y.e (aE rfl rfl) rfl (by decide) rfl (aS (cs:= [.string e.name,.int .i64 e.ino]) rfl cZ (inz eF) (by decide) (pv1 (.t .g3)) rfl rfl (by decide) rfl rfl) ?_
 rintro _ _ ⟨g49,rfl,rfl⟩
 refine Y.sk .g1 ?_
 refine Y.aa ?_
 refine Y.sc [(0,false),(4,false),(7,false),(11,false),(12,false)] (by kernel_rfl) ?_
 refine Y.e (aE rfl rfl) rfl (by decide) rfl (eH rfl cZ (inz eF)) ?_
 rintro _ _ ⟨g50,rfl,rfl⟩
 refine Y.sk .g2 ?_
 refine Y.add (c:=aG cP ([]:(List aQ)) [.slice (some ⟨g50,0,none⟩) 0 0]) (fun w S=>aN w S _) ?_
 refine Y.e (aE rfl rfl) rfl (by decide) rfl (eG (fS _ (eX (bC _ _ _) (bC _ _ _))) rfl cZ eF rfl (.t .z) (.t .g6) (.c .z .n) (fun w1 S1 tr=>tr.ctx ae) (by first | omega |(simp only [List.length_append,List.length_take,List.length_nil,List.length_cons];omega)) (by first | omega |(simp only [List.length_append,List.length_take,List.length_nil,List.length_cons];omega))) ?_
 rintro _ _ rfl
 refine Y.af .z (List.nil_append _) ?_
 refine Y.h (WS.a .z) ?_
 rintro⟨du,dv,rfl,b5,b6,b8⟩
 refine Y.sk .g3 ?_
 refine Y.v (c:=aG gH (⟨e.name,e.ino⟩:aQ) [.string e.name,.int .i64 e.ino]) .n (fun w S h=>fH (⟨e.name,e.ino⟩:aQ) h (by assumption)) ?_
 refine Y.e (aE rfl rfl) rfl (by decide) rfl (dU rfl cZ eF rfl (.t .z) (.t .g2) (.c .g1 (.c .g2 (.c .z .n))) (by first | omega |(simp only [List.length_append,List.length_take,List.length_nil,List.length_cons];omega)) (by first | omega |(simp only [List.length_append,List.length_take,List.length_nil,List.length_cons];omega))) ?_
 rintro _ _ rfl
 refine Y.h (WS.a .z) ?_
 rintro⟨dw,dx,rfl,b9,ca,cb⟩
 refine Y.sk .g2 ?_
 refine Y.e (aE rfl rfl) rfl (by decide) rfl (eG (fS _ (eX (bC _ _ _) (bC _ _ _))) rfl cZ eF rfl (.t .z) (.t .g4) (.c .z .n) (fun w1 S1 tr=>tr.ctx af) (by first | omega |(simp only [List.length_append,List.length_take,List.length_nil,List.length_cons];omega)) (by first | omega |(simp only [List.length_append,List.length_take,List.length_nil,List.length_cons];omega))) ?_
 rintro _ _ rfl
 refine Y.h (WS.a .z) ?_
 rintro⟨dy,dz,rfl,cc,cd,ce⟩
 refine Y.sk .g2 ?_
 refine Y.er (.s16 .g11) ?_
 refine Y.q (aE rfl rfl) rfl (by decide) rfl (aA rfl (.t .z)) ?_
 refine Y.sl rfl ?_
 refine Y.aa ?_
 refine Y.ag (by kernel_rfl) ?_
 refine Y.g (Y.ret ?_)
 refine Y.af (x':=dL x e) .z (by rw [←oQ (nQ hallq hq (.inl (by omega)))];simp [fY]) ?_
 refine Y.i (aY rfl .z) (.c .z .n) ?_
 rfl

theorem aMv {w0:World}{S0:Bs}{f:DFs}{g0 e0 s0:Nat}{ad:List Value}{au:Value}{av:Value} (a:Int) (s:ByteArray) (bq:s.size≤140737488351232) (b:Int) (hs:cB [cM g0 e0 s0 1 (au :: av :: ad),aG aP f.inodes [au],aG cG f.data [av]] w0 S0) (hp:bR f.inodes.length a) (h6:(aB f.inodes a).length≤6):
    Calls Tryz.prog 124 #[.pointer (some ⟨g0,0,none⟩),.int .i64 a,.string s,.int .i64 b] w0 (aJ w0 S0 (yE g0 e0 s0 ad (bH f a (dL (aB f.inodes a) ⟨s,b⟩)))):=by
 obtain⟨br,bs⟩:=hp
 refine Y.enter (N:=50) Tryz.func124 rfl rfl (by simp) [(0,.pointer (some ⟨g0,0,none⟩)),(1,.int .i64 a),(2,.string s),(3,.int .i64 b)] (by simp) hs ?_
 refine Y.h (WS.a .g1) ?_
 rintro⟨bt,aq,rfl,bi,bj,bk⟩
 refine Y.h (WS.a .g2) ?_
 rintro⟨a3,a4,rfl,bm,bn,bo⟩
 refine Y.seq (Y.region (Y.mv rfl .z (Y.nc rfl .z (Y.fa rfl .z aO (Y.ld rfl bK .z .z (Y.mv rfl .g5 ?_))))))
 refine Y.w (.c .g1 .n) eC ?_
 rintro ar ae
 obtain⟨y4,aj⟩:=aI (xs:=f.inodes) (j:=Int.toNat a) (by omega)
 obtain⟨c5,ak⟩:=aI (xs:=ar) (j:=Int.toNat a) (by rw [ae];exact(List.getElem?_eq_some_iff.1 aj).1)
 refine Y.an .g1 (cW aj ak) ?_
 refine Y.w (.c .z .n) dR ?_
 rintro⟨v6,v7⟩ rfl
 refine Y.h (WS.a .z) ?_
 rintro⟨af,ag,rfl,a5,a6,a7⟩
 refine Y.h (WS.a .g1) ?_
 rintro⟨ax,al,rfl,a8,a9,ba⟩
 have ay:=cI (a:=a) aj (by omega)
 have bb:y4.ents.length≤6:=by rw [←ay];exact h6
 refine Y.h (WS.i .g4 (by omega)) ?_
 rintro⟨aa,rfl⟩
 refine Y.ql rfl (aC (j:=Int.toNat a) rfl cE aU (.t .g1) (.t .z) (by omega) (by omega)) ?_
 refine Y.as rfl .z (Y.nt (Y.seq (Y.region (Y.ql rfl (aA rfl .c) (Y.nt (Y.seq ?_))))))
 refine Y.block ?_
 refine Y.aj (γ:=Nat) (fun q=> [(9,.int .i64 (q:Int)),(8,.pointer (some (Addr.add aa ((Int.toNat a) * 5)))),(2,.string s),(3,.int .i64 b)]) (fun q=> [aG bY y4.blocks [.slice af y4.blocks.length ag],aG cP y4.ents [.slice ax y4.ents.length al],lX bD (List.take (Int.toNat a) f.inodes) (List.take (Int.toNat a) ar),lX bD (List.drop (Int.toNat a+1) f.inodes) (List.drop (Int.toNat a+1) ar),aG (bA 44 72 (mM bD.sz bD.pos)) ar [.slice (some aa) f.inodes.length aq],cM g0 e0 s0 1 ((.slice (some aa) f.inodes.length aq) :: (.slice a3 f.data.length a4) :: ad),aG cG f.data [.slice a3 f.data.length a4]]) (fun q=>q≤y4.ents.length∧∀(j:Nat) (y:aQ),j<q→y4.ents[j]? =some y→sLt y.name s=true) (fun q=>y4.ents.length - q) 0 ⟨Nat.zero_le _,eV (q:=fun _ (y:aQ)=>sLt y.name s=true)⟩ (.c .z (.c .g1 (.c .g10 (.c .g11 .n)))) (fun _ h=>h.sel (.c .z (.c .z (.c .z (.c .z (.c .z (.c .z (.c .z .n)))))))) ?_
 rintro q ⟨hq,hallq⟩
 refine Y.seq (Y.seq (Y.region (Y.mv rfl .z (Y.mv rfl .g2 (Y.nc rfl .z (Y.fa rfl .z bE (Y.ql rfl (aL rfl dP (.t .z) (WS.h .g4 ak rfl)) (Y.ql rfl (bM rfl cZ (.t .z)) ?_))))))))
 refine Y.ql rfl (dJ rfl (.t .g5) (.t .z)) (Y.mv rfl .z ?_)
 refine Y.al .z (fun g14=> ?_) (fun g14=> ?_)
 refine Y.qg rfl rfl .z rfl rfl rfl (aV rfl (.t .g9)) ?_
 refine Y.qg rfl rfl .g1 rfl rfl rfl (eB rfl (.t .z)) ?_
 refine Y.qg rfl rfl .g2 rfl rfl rfl (aK rfl (.t .z) (fun _=>bE _ _)) ?_
 refine Y.qg rfl rfl .g3 rfl rfl rfl (aL rfl dP (.t .z) (WS.h .g4 ak rfl)) ?_
 refine Y.qg rfl rfl .g4 rfl rfl rfl (aV rfl (.t .g12)) ?_
 refine Y.w (.c .g1 .n) eC ?_
 rintro az ab
 obtain⟨ai,ac⟩:=aI (xs:=y4.ents) (j:=q) (by omega)
 obtain⟨bu,ah⟩:=aI (xs:=az) (j:=q) (by rw [ab];exact(List.getElem?_eq_some_iff.1 ac).1)
 refine Y.an .g1 (cW ac ah) ?_
 refine Y.w (.c .z .n) uD ?_
 rintro⟨⟩ ⟨rfl,a0⟩
 refine Y.h (WS.i .g2 (by omega)) ?_
 rintro⟨aw,rfl⟩
 refine Y.qg rfl rfl .g5 rfl rfl rfl (aC (j:=q) rfl cZ dV (.t .g1) (.t .z) rfl (by omega)) ?_
 refine Y.qg rfl rfl .g6 rfl rfl rfl (aK rfl (.t .z) (fun _=>jP _ _)) ?_
 refine Y.qg rfl rfl .g7 rfl rfl rfl (aL rfl iR (.t .z) (WS.h .g2 ah rfl)) ?_
 refine Y.qg rfl rfl .g8 rfl rfl rfl (aV rfl (.t (.s16 .g2))) ?_
 refine Y.qg rfl rfl .g9 rfl rfl rfl (aHp rfl (.t .g1) (.t .z)) ?_
 refine Y.ql rfl (bO rfl (.t .g10) (.t .z)) (Y.nt ?_)
 refine Y.cond (.t .z) (fun bp=> ?_) (fun bp=> ?_)
 refine Y.skip (Y.g (Y.block (Y.region (Y.mv rfl (.s16 .g3) ?_))))
 refine Y.ql rfl (bQ (c:=((q+1:Nat):Int)) rfl (.t .z) .c (wr (by omega) (by omega) (by omega))) ?_
 refine Y.er (.s16 .g5) (Y.as rfl .z (Y.nil (Y.ac ?_)))
 refine Y.v (c:=aG gH ai [.string ai.name,.int .i64 ai.ino]) .n (fun w S h=>fH ai h (by assumption)) ?_
 refine Y.v (c:=aG cP y4.ents [.slice (some aw) y4.ents.length al]) (.c .g3 (.c .z (.c .z (.c .z .n)))) (bU (K:=gH) ab ac ah) ?_
 refine Y.ae (q+1) ⟨by omega,eM (q:=fun _ (y:aQ)=>sLt y.name s=true) hallq ac (by assumption)⟩ (by first | omega |(dsimp only;omega)) (.c .z (.c (.s16 .g6) (.c (.s16 .g7) (.c (.s16 .g8) .n)))) (fun _ h=>h.sel (.c .g1 (.c .z (.c .z (.c .z (.c .z (.c .z (.c .z .n))))))))
 refine Y.exit (Y.ab (Y.ab (Y.ai (Y.g (Y.region (Y.mv rfl (.s16 .g4) (Y.mv rfl (.s16 .g5) (Y.nc rfl .z ?_))))))))
 refine Y.fa rfl .z bE (Y.ql rfl (aL rfl dP (.t .z) (WS.h .g6 ak rfl)) (Y.mv rfl (.s16 .g8) (Y.mv rfl (.s16 .g11) (Y.mv rfl (.s16 .g13) (Y.ql rfl (aZ (cs:= [.string s,.int .i64 b]) rfl pI (pv2 (.t .g1) (.t .z)) rfl) ?_)))))
 refine Y.el rfl (aS (cs:= [.string s,.int .i64 b]) rfl cZ (inz eF) (by decide) (pv1 (.t .z)) rfl rfl (by decide) rfl rfl) ?_
 rintro _ _ ⟨g22,rfl,rfl⟩
 refine Y.v (c:=aG gH ai [.string ai.name,.int .i64 ai.ino]) .n (fun w S h=>fH ai h (by assumption)) ?_
 refine Y.v (c:=aG cP y4.ents [.slice (some aw) y4.ents.length al]) (.c .g4 (.c .z (.c .g1 (.c .g1 .n)))) (bU (K:=gH) ab ac ah) ?_
 refine Y.v (c:=aG gH (⟨s,b⟩:aQ) [.string s,.int .i64 b]) .n (fun w S h=>fH (⟨s,b⟩:aQ) h (by assumption)) ?_
 refine Y.v (c:=aG cP [(⟨s,b⟩:aQ)] [.slice (some ⟨g22,0,none⟩) 1 1]) (.c .g2 (.c .z .n)) (yO rfl rfl (by decide)) ?_
 refine Y.cl rfl rfl Tryz.func150 rfl rfl (dX (.t .g5) (.t .g4) (.t .z)) (.c .g1 (.c .z .n)) (fun _ _ hs tr=>aJ1 (x:=y4.ents) (ys:= [(⟨s,b⟩:aQ)]) _ hs (by first | omega |(simp <;> omega)) (by first | omega |(simp <;> omega)) (by first | omega |(simp <;> omega)) (by first | omega |(simp <;> omega))) ?_
 rintro _ _ rfl
 refine Y.m (.c .n) ?_
 refine Y.h (WS.a .z) ?_
 rintro⟨am,an,rfl,bc,bd,be⟩
 refine Y.nc rfl .g10 (Y.fa rfl .z bE ?_)
 refine Y.es (aD rfl) rfl (gY (j:=Int.toNat a) (off:=4) (cs:= [.slice am (List.take q y4.ents++([(⟨s,b⟩:aQ)])++List.drop q y4.ents).length an]) rfl nC (.t .z) (gA _ _ _) (.t .g2) rfl (lZ rfl) .g4 ak (Nat.le_of_ble_eq_true rfl)) ?_
 refine Y.af (x':=List.set ar (Int.toNat a) [.int .i64 y4.kind,.int .i64 y4.links,.int .i64 y4.size,.slice af y4.blocks.length ag,.slice am (List.take q y4.ents++([(⟨s,b⟩:aQ)])++List.drop q y4.ents).length an]) .z rfl ?_
 refine Y.nil ?_
 refine Y.v (c:=aG bD (⟨y4.kind,y4.links,y4.size,y4.blocks,List.take q y4.ents++([(⟨s,b⟩:aQ)])++List.drop q y4.ents⟩:aF) [.int .i64 y4.kind,.int .i64 y4.links,.int .i64 y4.size,.slice af y4.blocks.length ag,.slice am (List.take q y4.ents++([(⟨s,b⟩:aQ)])++List.drop q y4.ents).length an]) (.c .g2 (.c .g1 .n)) (fun w S h=>bF (⟨y4.kind,y4.links,y4.size,y4.blocks,List.take q y4.ents++([(⟨s,b⟩:aQ)])++List.drop q y4.ents⟩:aF) h) ?_
 refine Y.v (c:=aG aP (List.set f.inodes (Int.toNat a) (⟨y4.kind,y4.links,y4.size,y4.blocks,List.take q y4.ents++([(⟨s,b⟩:aQ)])++List.drop q y4.ents⟩:aF)) [.slice (some aa) f.inodes.length aq]) (.c .g1 (.c .z (.c .z (.c .z .n)))) (dQ (K:=bD) ae (List.getElem?_eq_some_iff.1 aj).1 rfl) ?_
 have a1:List.set f.inodes (Int.toNat a) (⟨y4.kind,y4.links,y4.size,y4.blocks,List.take q y4.ents++([(⟨s,b⟩:aQ)])++List.drop q y4.ents⟩:aF)=eD f.inodes a (dL (aB f.inodes a) ⟨s,b⟩):=(by rw [ay,←oQ (n:=⟨s,b⟩) (nQ hallq hq (.inr ⟨_,ac,by first | assumption | simp_all⟩))];exact nD aj (by omega))
 refine Y.ak .z (congrArg (fun z_=>(aG aP (z_) [.slice (some aa) f.inodes.length aq]:Asn)) a1) ?_
 refine Y.aw (sP rfl) (.c .g1 (.c .z (.c .z .n))) ?_
 exact⟨_,_,rfl,rfl⟩
 refine Y.j rfl rfl .z rfl rfl (by decide) rfl ?_
 refine Y.j rfl rfl .g1 rfl rfl (by decide) rfl ?_
 refine Y.j rfl rfl .g2 rfl rfl (by decide) rfl ?_
 refine Y.j rfl rfl .g3 rfl rfl (by decide) rfl ?_
 refine Y.j rfl rfl .g4 rfl rfl (by decide) rfl ?_
 refine Y.j rfl rfl .g5 rfl rfl (by decide) rfl ?_
 refine Y.j rfl rfl .g6 rfl rfl (by decide) rfl ?_
 refine Y.j rfl rfl .g7 rfl rfl (by decide) rfl ?_
 refine Y.j rfl rfl .g8 rfl rfl (by decide) rfl ?_
 refine Y.j rfl rfl .g9 rfl rfl (by decide) rfl ?_
 refine Y.ql rfl (bW rfl (.t .g10) .c) (Y.nt ?_)
 refine Y.ar (.t .z) ?_
 refine Y.exit (Y.ab (Y.ab (Y.ai (Y.g (Y.region (Y.mv rfl (.s16 .g4) (Y.mv rfl (.s16 .g5) (Y.nc rfl .z ?_))))))))
 refine Y.fa rfl .z bE (Y.ql rfl (aL rfl dP (.t .z) (WS.h .g4 ak rfl)) (Y.mv rfl (.s16 .g8) (Y.mv rfl (.s16 .g11) (Y.mv rfl (.s16 .g13) (Y.ql rfl (aZ (cs:= [.string s,.int .i64 b]) rfl pI (pv2 (.t .g1) (.t .z)) rfl) ?_)))))
 refine Y.el rfl (aS (cs:= [.string s,.int .i64 b]) rfl cZ (inz eF) (by decide) (pv1 (.t .z)) rfl rfl (by decide) rfl rfl) ?_
 rintro _ _ ⟨g30,rfl,rfl⟩
 refine Y.v (c:=aG gH (⟨s,b⟩:aQ) [.string s,.int .i64 b]) .n (fun w S h=>fH (⟨s,b⟩:aQ) h (by assumption)) ?_
 refine Y.v (c:=aG cP [(⟨s,b⟩:aQ)] [.slice (some ⟨g30,0,none⟩) 1 1]) (.c .g1 (.c .z .n)) (yO rfl rfl (by decide)) ?_
 refine Y.cl rfl rfl Tryz.func150 rfl rfl (dX (.t .g5) (.t .g4) (.t .z)) (.c .g2 (.c .z .n)) (fun _ _ hs tr=>aJ1 (x:=y4.ents) (ys:= [(⟨s,b⟩:aQ)]) _ hs (by first | omega |(simp <;> omega)) (by first | omega |(simp <;> omega)) (by first | omega |(simp <;> omega)) (by first | omega |(simp <;> omega))) ?_
 rintro _ _ rfl
 refine Y.m (.c .n) ?_
 refine Y.h (WS.a .z) ?_
 rintro⟨ao,ap,rfl,bf,bg,bh⟩
 refine Y.nc rfl .g10 (Y.fa rfl .z bE ?_)
 refine Y.es (aD rfl) rfl (gY (j:=Int.toNat a) (off:=4) (cs:= [.slice ao (List.take q y4.ents++([(⟨s,b⟩:aQ)])++List.drop q y4.ents).length ap]) rfl nC (.t .z) (gA _ _ _) (.t .g2) rfl (lZ rfl) .g4 ak (Nat.le_of_ble_eq_true rfl)) ?_
 refine Y.af (x':=List.set ar (Int.toNat a) [.int .i64 y4.kind,.int .i64 y4.links,.int .i64 y4.size,.slice af y4.blocks.length ag,.slice ao (List.take q y4.ents++([(⟨s,b⟩:aQ)])++List.drop q y4.ents).length ap]) .z rfl ?_
 refine Y.nil ?_
 refine Y.v (c:=aG bD (⟨y4.kind,y4.links,y4.size,y4.blocks,List.take q y4.ents++([(⟨s,b⟩:aQ)])++List.drop q y4.ents⟩:aF) [.int .i64 y4.kind,.int .i64 y4.links,.int .i64 y4.size,.slice af y4.blocks.length ag,.slice ao (List.take q y4.ents++([(⟨s,b⟩:aQ)])++List.drop q y4.ents).length ap]) (.c .g2 (.c .g1 .n)) (fun w S h=>bF (⟨y4.kind,y4.links,y4.size,y4.blocks,List.take q y4.ents++([(⟨s,b⟩:aQ)])++List.drop q y4.ents⟩:aF) h) ?_
 refine Y.v (c:=aG aP (List.set f.inodes (Int.toNat a) (⟨y4.kind,y4.links,y4.size,y4.blocks,List.take q y4.ents++([(⟨s,b⟩:aQ)])++List.drop q y4.ents⟩:aF)) [.slice (some aa) f.inodes.length aq]) (.c .g1 (.c .z (.c .z (.c .z .n)))) (dQ (K:=bD) ae (List.getElem?_eq_some_iff.1 aj).1 rfl) ?_
 have a2:List.set f.inodes (Int.toNat a) (⟨y4.kind,y4.links,y4.size,y4.blocks,List.take q y4.ents++([(⟨s,b⟩:aQ)])++List.drop q y4.ents⟩:aF)=eD f.inodes a (dL (aB f.inodes a) ⟨s,b⟩):=(by rw [ay,←oQ (n:=⟨s,b⟩) (nQ hallq hq (.inl (by omega)))];exact nD aj (by omega))
 refine Y.ak .z (congrArg (fun z_=>(aG aP (z_) [.slice (some aa) f.inodes.length aq]:Asn)) a2) ?_
 refine Y.aw (sP rfl) (.c .g1 (.c .z (.c .z .n))) ?_
 exact⟨_,_,rfl,rfl⟩

end Go.Proofs.YtmejbfmhaoilmaaGreat

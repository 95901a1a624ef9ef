/- What is proved: contracts of functions, one a function. No condition. -/
import Derived.Test.YtmejbfmhaoilmaaGreatBase1
import Derived.Test.YtmejbfmhaoilmaaGreatW36
import Derived.Test.YtmejbfmhaoilmaaGreatBase2
namespace Go.Proofs.YtmejbfmhaoilmaaGreat
open Go Go.RowKit
set_option linter.unusedVariables false
set_option linter.unusedSimpArgs false
set_option maxHeartbeats 1000000
set_option maxRecDepth 20000
theorem aD6 {w0:World}{S0:Bs}{x:(List bT)}{v0:Value} (h0:dL.ro w0 (FF w0 S0) x [v0]) {e:bT}{aq:List Value} (h1:kB.ro w0 (FF w0 S0) e aq) (d0:x.length≤6):
    Calls Tryz.prog 128 #[v0,.agg aq.toArray] w0 (aI w0 S0 (fun r l=>l= [aG dL (gG x e) [r]])):=by
 obtain⟨A0,c0,rfl,d1,d2,d3,cf⟩:=aD h0
 obtain⟨rfl,cg⟩:=fF h1
 refine Y.enter (N:=34) Tryz.func128 rfl rfl (by simp) [(0,.slice A0 x.length c0),(1,.agg #[.string e.name,.int .i64 e.ino])] (by simp) (l0:= []) trivial ?_
 refine Y.seq (Y.region ?_)
 refine Y.el rfl (fR (cs:= [.string e.name,.int .i64 e.ino]) (n:=2) rfl (.t .g1) rfl rfl) ?_
 rintro _ _ ⟨g2,rfl,rfl⟩
 refine Y.ql rfl (aA rfl .c) (Y.nt (Y.seq (Y.region (Y.ql rfl (aA rfl .c) (Y.nt (Y.seq ?_))))))
 refine Y.block ?_
 refine Y.ah (γ:=Nat) (fun q=> [(5,.int .i64 (q:Int)),(4,.slice none 0 0),(3,.pointer (some ⟨g2,0,none⟩)),(0,.slice A0 x.length c0)]) (fun q=> [bZ g2 46 2 1 [.string e.name,.int .i64 e.ino]]) (fun q=>q≤x.length∧∀(j:Nat) (y:bT),j<q→x[j]? =some y→sLt y.name e.name=true) (fun q=>x.length - q) 0 ⟨Nat.zero_le _,eR (q:=fun _ (y:bT)=>sLt y.name e.name=true)⟩ (.c .z (.c .g1 (.c .g2 (.c .g3 .n)))) (fun _ h=>h.sel (.c .z .n)) ?_
 rintro q ⟨hq,hallq⟩
 refine Y.seq (Y.seq ?_)
 have ag:(iQ x 0 q).length=q - 0:=gR (by omega)
 refine Y.dr .z 14 gB ?_
 refine Y.sc (qs 0 5) (by kernel_rfl) ?_
 refine Y.dm rfl rfl .z .z (Y.dm rfl rfl .z .g4 (Y.dk rfl rfl .z (bE rfl dQ (.t .z)) (Y.dk rfl rfl .z (cU rfl (.t .g2) (.t .z)) (Y.dm rfl rfl .z .z (Y.aa ?_)))))
 refine Y.ak .z (fun g3=> ?_) (fun g3=> ?_)
 refine Y.sc (qs 5 9) (by kernel_rfl) ?_
 refine Y.al rfl rfl rfl .z rfl (by decide) rfl .z (aS rfl (.t .g8)) ?_
 refine Y.al rfl rfl rfl .g1 rfl (by decide) rfl .z (aS rfl (.t .g6)) ?_
 obtain⟨al,ah,ai⟩:=cf (by omega)
 subst ah
 obtain⟨x5,aj⟩:=aJ (xs:=x) (j:=q) (by omega)
 obtain⟨ch,am,an,ao⟩:=ai.elem aj
 obtain⟨rfl,ar⟩:=fF am
 refine Y.al rfl rfl rfl .g2 rfl (by decide) rfl .z (aB (j:=q) rfl dQ fS (.t .g1) (.t .z) rfl (by omega)) ?_
 refine Y.al rfl rfl rfl .g3 rfl (by decide) rfl .z (aL rfl (.t .z) (fun _=>mU _ _)) ?_
 refine Y.al rfl rfl rfl .g4 rfl (by decide) rfl .z (aN rfl kP (.t .z) (WS.el an ao rfl)) ?_
 refine Y.al rfl rfl rfl .g5 rfl (by decide) rfl .z (aL rfl (.t .g12) (fun _=>mU _ _)) ?_
 refine Y.al rfl rfl rfl .g6 rfl (by decide) rfl .z (aN rfl kP (.t .z) (WS.g .z rfl)) ?_
 refine Y.al rfl rfl rfl .g7 rfl (by decide) rfl .z (aJ0 rfl (.t .g2) (.t .z)) ?_
 refine Y.dk rfl rfl .z (bB rfl (.t .g8) (.t .z)) (Y.aa ?_)
 refine Y.ai (by kernel_rfl) ?_
 refine Y.g ?_
 refine Y.cond (.t .z) (fun b7=> ?_) (fun b7=> ?_)
 refine Y.skip (Y.g (Y.block (Y.region (Y.mv rfl .g14 ?_))))
 refine Y.ql rfl (bG (c:=((q+1:Nat):Int)) rfl (.t .z) .c (wr (by omega) (by omega) (by omega))) ?_
 refine Y.er .g16 (Y.as rfl .z (Y.nil (Y.y ?_)))
 refine Y.ae (q+1) ⟨by omega,dY (q:=fun _ (y:bT)=>sLt y.name e.name=true) hallq aj (by assumption)⟩ (by first | omega |(dsimp only;omega)) (.c .z (.c (.s16 .g1) (.c (.s16 .g2) (.c (.s16 .g3) .n)))) (fun _ h=>h.sel (.c .z .n))
 refine Y.exit (Y.w (Y.w (Y.ag (Y.g (Y.seq ?_)))))
 have ag:(iQ x 0 q).length=q - 0:=gR (by omega)
 refine Y.dr .z 12 gB ?_
 refine Y.sc (qs 1 3++ [(5,true)]++qs 8 3) (by kernel_rfl) ?_
 refine Y.dm rfl rfl .z (.s16 .g1) (Y.dm rfl rfl .z .g15 ?_)
 obtain⟨d4,ak⟩:∃A':Option Addr,A'=(if c0=0 then(some al)else Option.map (fun z=>Addr.add z (0 * 2)) (some al)):=⟨_,rfl⟩
 have ap:=nD (a:=0) (b:=q) ak h0 (by omega) (by omega)
 have d5:=gR (xs:=x) (a:=0) (b:=q) (by omega)
 refine Y.dk rfl rfl .z (jT (a:=0) (b:=q) rfl dQ fS (.t .g1) ak (.inl ⟨rfl,rfl⟩) (.inr ⟨_,_,rfl,(.t .z)⟩) (by omega) (by omega) (by omega)) ?_
 refine Y.dk rfl rfl .z (qW rfl uP (.t (.s16 .g3)) .z fS) (Y.dm rfl rfl .z (.s16 .g5) (Y.dm rfl rfl .z (.s16 .g3) ?_))
 obtain⟨ci,aa⟩:∃A':Option Addr,A'=(if c0=q then(some al)else Option.map (fun z=>Addr.add z (q * 2)) (some al)):=⟨_,rfl⟩
 have ad:=nD (a:=q) (b:=x.length) aa h0 (by omega) (by omega)
 have cj:=gR (xs:=x) (a:=q) (b:=x.length) (by omega)
 refine Y.dk rfl rfl .z (jT (a:=q) (b:=x.length) rfl dQ fS (.t .g1) aa (.inr ⟨_,_,rfl,(.t .z)⟩) (.inl ⟨rfl,rfl⟩) (by omega) (by omega) (by omega)) ?_
 refine Y.aa ?_
 refine Y.av (i:=0) (j:=6) (by kernel_rfl) ?_ ?_
 refine Y.e (aC rfl rfl) rfl (by decide) rfl (dW rfl dQ (inz eF)) ?_
 rintro _ _ ⟨g12,rfl,rfl⟩
 refine Y.sk .g1 ?_
 refine Y.aa ?_
 refine Y.sc [] (by kernel_rfl) ?_
 refine Y.aa ?_
 refine Y.av (i:=4) (j:=6) (by kernel_rfl) ?_ ?_
 refine Y.add (c:=aG dL ([]:(List bT)) [.slice (some ⟨g12,0,none⟩) 0 0]) (fun w S=>aK w S _) ?_
 refine Y.e (aC rfl rfl) rfl (by decide) rfl (dU (gY _ (gD (bI _ _ _) (bI _ _ _))) rfl dQ eF rfl (.t .z) (.t .g5) (.c .z .n) (fun w1 S1 tr=>tr.ctx ap) (by first | omega |(simp only [List.length_append,List.length_take,List.length_nil,List.length_cons];omega)) (by first | omega |(simp only [List.length_append,List.length_take,List.length_nil,List.length_cons];omega))) ?_
 rintro _ _ rfl
 refine Y.af .z (List.nil_append _) ?_
 refine Y.i (WS.a .z) ?_
 rintro⟨ck,cm,rfl,au,av,aw⟩
 refine Y.sk .g2 ?_
 refine Y.aa ?_
 refine Y.sc [(6,false),(7,false),(11,false),(12,false)] (by kernel_rfl) ?_
 refine Y.e (aC rfl rfl) rfl (by decide) rfl (aO (cs:= [.string e.name,.int .i64 e.ino]) rfl dQ (inz eF) (by decide) (pv1 (.t .g5)) rfl rfl (by decide) rfl rfl) ?_
 rintro _ _ ⟨g15,rfl,rfl⟩
 refine Y.sk .g3 ?_
 refine Y.ac (c:=aG kB (⟨e.name,e.ino⟩:bT) [.string e.name,.int .i64 e.ino]) .n (fun w S h=>iO (⟨e.name,e.ino⟩:bT) h (by assumption)) ?_
 refine Y.e (aC rfl rfl) rfl (by decide) rfl (dC rfl dQ eF rfl (.t .g1) (.t .z) (.c .g2 (.c .g1 (.c .z .n))) (by first | omega |(simp only [List.length_append,List.length_take,List.length_nil,List.length_cons];omega)) (by first | omega |(simp only [List.length_append,List.length_take,List.length_nil,List.length_cons];omega))) ?_
 rintro _ _ rfl
 refine Y.i (WS.a .z) ?_
 rintro⟨cn,co,rfl,ax,ay,az⟩
 refine Y.sk .g2 ?_
 refine Y.e (aC rfl rfl) rfl (by decide) rfl (dU (gY _ (gD (bI _ _ _) (bI _ _ _))) rfl dQ eF rfl (.t .z) (.t .g4) (.c .z .n) (fun w1 S1 tr=>tr.ctx ad) (by first | omega |(simp only [List.length_append,List.length_take,List.length_nil,List.length_cons];omega)) (by first | omega |(simp only [List.length_append,List.length_take,List.length_nil,List.length_cons];omega))) ?_
 rintro _ _ rfl
 refine Y.i (WS.a .z) ?_
 rintro⟨cp,cq,rfl,a0,a1,a2⟩
 refine Y.sk .g2 ?_
 refine Y.er (.s16 .g11) ?_
 refine Y.q (aC rfl rfl) rfl (by decide) rfl (aA rfl (.t .z)) ?_
 refine Y.sl rfl ?_
 refine Y.aa ?_
 refine Y.ai (by kernel_rfl) ?_
 refine Y.g (Y.ret ?_)
 refine Y.af (x':=gG x e) .z (by rw [←rO (pQ hallq hq (.inr ⟨_,aj,by first | assumption | simp_all⟩))];simp [iQ]) ?_
 refine Y.j (aT rfl .z) (.c .z .n) ?_
 rfl
 refine Y.e (aC rfl rfl) rfl (by decide) rfl (aO (cs:= [.string e.name,.int .i64 e.ino]) rfl dQ (inz eF) (by decide) (pv1 (.t .g4)) rfl rfl (by decide) rfl rfl) ?_
 rintro _ _ ⟨g19,rfl,rfl⟩
 refine Y.sk .g2 ?_
 refine Y.aa ?_
 refine Y.sc [(4,false),(7,false),(11,false),(12,false)] (by kernel_rfl) ?_
 refine Y.add (c:=aG dL ([]:(List bT)) [.slice (some ⟨g12,0,none⟩) 0 0]) (fun w S=>aK w S _) ?_
 refine Y.e (aC rfl rfl) rfl (by decide) rfl (dU (gY _ (gD (bI _ _ _) (bI _ _ _))) rfl dQ eF rfl (.t .g1) (.t .g6) (.c .z .n) (fun w1 S1 tr=>tr.ctx ap) (by first | omega |(simp only [List.length_append,List.length_take,List.length_nil,List.length_cons];omega)) (by first | omega |(simp only [List.length_append,List.length_take,List.length_nil,List.length_cons];omega))) ?_
 rintro _ _ rfl
 refine Y.af .z (List.nil_append _) ?_
 refine Y.i (WS.a .z) ?_
 rintro⟨cr,ct,rfl,a3,a4,a5⟩
 refine Y.sk .g3 ?_
 refine Y.ac (c:=aG kB (⟨e.name,e.ino⟩:bT) [.string e.name,.int .i64 e.ino]) .n (fun w S h=>iO (⟨e.name,e.ino⟩:bT) h (by assumption)) ?_
 refine Y.e (aC rfl rfl) rfl (by decide) rfl (dC rfl dQ eF rfl (.t .z) (.t .g1) (.c .g1 (.c .g1 (.c .z .n))) (by first | omega |(simp only [List.length_append,List.length_take,List.length_nil,List.length_cons];omega)) (by first | omega |(simp only [List.length_append,List.length_take,List.length_nil,List.length_cons];omega))) ?_
 rintro _ _ rfl
 refine Y.i (WS.a .z) ?_
 rintro⟨cu,cv,rfl,a6,a7,a8⟩
 refine Y.sk .g2 ?_
 refine Y.e (aC rfl rfl) rfl (by decide) rfl (dU (gY _ (gD (bI _ _ _) (bI _ _ _))) rfl dQ eF rfl (.t .z) (.t .g4) (.c .z .n) (fun w1 S1 tr=>tr.ctx ad) (by first | omega |(simp only [List.length_append,List.length_take,List.length_nil,List.length_cons];omega)) (by first | omega |(simp only [List.length_append,List.length_take,List.length_nil,List.length_cons];omega))) ?_
 rintro _ _ rfl
 refine Y.i (WS.a .z) ?_
 rintro⟨cw,cx,rfl,a9,ba,bb⟩
 refine Y.sk .g2 ?_
 refine Y.er (.s16 .g11) ?_
 refine Y.q (aC rfl rfl) rfl (by decide) rfl (aA rfl (.t .z)) ?_
 refine Y.sl rfl ?_
 refine Y.aa ?_
 refine Y.ai (by kernel_rfl) ?_
 refine Y.g (Y.ret ?_)
 refine Y.af (x':=gG x e) .z (by rw [←rO (pQ hallq hq (.inr ⟨_,aj,by first | assumption | simp_all⟩))];simp [iQ]) ?_
 refine Y.j (aT rfl .z) (.c .z .n) ?_
 rfl
 refine Y.e (aC rfl rfl) rfl (by decide) rfl (aO (cs:= [.string e.name,.int .i64 e.ino]) rfl dQ (inz eF) (by decide) (pv1 (.t .g3)) rfl rfl (by decide) rfl rfl) ?_
 rintro _ _ ⟨g25,rfl,rfl⟩
 refine Y.sk .g1 ?_
 refine Y.aa ?_
 refine Y.sc [(0,false),(4,false),(7,false),(11,false),(12,false)] (by kernel_rfl) ?_
 refine Y.e (aC rfl rfl) rfl (by decide) rfl (dW rfl dQ (inz eF)) ?_
 rintro _ _ ⟨g26,rfl,rfl⟩
 refine Y.sk .g2 ?_
 refine Y.add (c:=aG dL ([]:(List bT)) [.slice (some ⟨g26,0,none⟩) 0 0]) (fun w S=>aK w S _) ?_
 refine Y.e (aC rfl rfl) rfl (by decide) rfl (dU (gY _ (gD (bI _ _ _) (bI _ _ _))) rfl dQ eF rfl (.t .z) (.t .g6) (.c .z .n) (fun w1 S1 tr=>tr.ctx ap) (by first | omega |(simp only [List.length_append,List.length_take,List.length_nil,List.length_cons];omega)) (by first | omega |(simp only [List.length_append,List.length_take,List.length_nil,List.length_cons];omega))) ?_
 rintro _ _ rfl
 refine Y.af .z (List.nil_append _) ?_
 refine Y.i (WS.a .z) ?_
 rintro⟨cy,cz,rfl,bc,bd,be⟩
 refine Y.sk .g3 ?_
 refine Y.ac (c:=aG kB (⟨e.name,e.ino⟩:bT) [.string e.name,.int .i64 e.ino]) .n (fun w S h=>iO (⟨e.name,e.ino⟩:bT) h (by assumption)) ?_
 refine Y.e (aC rfl rfl) rfl (by decide) rfl (dC rfl dQ eF rfl (.t .z) (.t .g2) (.c .g1 (.c .g2 (.c .z .n))) (by first | omega |(simp only [List.length_append,List.length_take,List.length_nil,List.length_cons];omega)) (by first | omega |(simp only [List.length_append,List.length_take,List.length_nil,List.length_cons];omega))) ?_
 rintro _ _ rfl
 refine Y.i (WS.a .z) ?_
 rintro⟨c1,c2,rfl,bf,bg,bh⟩
 refine Y.sk .g2 ?_
 refine Y.e (aC rfl rfl) rfl (by decide) rfl (dU (gY _ (gD (bI _ _ _) (bI _ _ _))) rfl dQ eF rfl (.t .z) (.t .g4) (.c .z .n) (fun w1 S1 tr=>tr.ctx ad) (by first | omega |(simp only [List.length_append,List.length_take,List.length_nil,List.length_cons];omega)) (by first | omega |(simp only [List.length_append,List.length_take,List.length_nil,List.length_cons];omega))) ?_
 rintro _ _ rfl
 refine Y.i (WS.a .z) ?_
 rintro⟨c3,c4,rfl,bi,bj,bk⟩
 refine Y.sk .g2 ?_
 refine Y.er (.s16 .g11) ?_
 refine Y.q (aC rfl rfl) rfl (by decide) rfl (aA rfl (.t .z)) ?_
 refine Y.sl rfl ?_
 refine Y.aa ?_
 refine Y.ai (by kernel_rfl) ?_
 refine Y.g (Y.ret ?_)
 refine Y.af (x':=gG x e) .z (by rw [←rO (pQ hallq hq (.inr ⟨_,aj,by first | assumption | simp_all⟩))];simp [iQ]) ?_
 refine Y.j (aT rfl .z) (.c .z .n) ?_
 rfl
 refine Y.sc (qs 5 8++ [(13,false)]) (by kernel_rfl) ?_
 refine Y.am rfl rfl rfl .z rfl rfl (by decide) rfl .z ?_
 refine Y.am rfl rfl rfl .g1 rfl rfl (by decide) rfl .z ?_
 refine Y.am rfl rfl rfl .g2 rfl rfl (by decide) rfl .z ?_
 refine Y.am rfl rfl rfl .g3 rfl rfl (by decide) rfl .z ?_
 refine Y.am rfl rfl rfl .g4 rfl rfl (by decide) rfl .z ?_
 refine Y.am rfl rfl rfl .g5 rfl rfl (by decide) rfl .z ?_
 refine Y.am rfl rfl rfl .g6 rfl rfl (by decide) rfl .z ?_
 refine Y.am rfl rfl rfl .g7 rfl rfl (by decide) rfl .z ?_
 refine Y.q (aC rfl rfl) rfl (by decide) rfl (aV rfl (.t .g8) .c) ?_
 refine Y.sk .z ?_
 refine Y.aa ?_
 refine Y.ai (by kernel_rfl) ?_
 refine Y.g ?_
 refine Y.an (.t .z) ?_
 refine Y.exit (Y.w (Y.w (Y.ag (Y.g (Y.seq ?_)))))
 have ag:(iQ x 0 q).length=q - 0:=gR (by omega)
 refine Y.dr .z 12 gB ?_
 refine Y.sc (qs 1 3++ [(5,true)]++qs 8 3) (by kernel_rfl) ?_
 refine Y.dm rfl rfl .z (.s16 .g1) (Y.dm rfl rfl .z .g15 ?_)
 obtain⟨c5,ab⟩:∃A':Option Addr,A'=(if c0=0 then A0 else Option.map (fun z=>Addr.add z (0 * 2)) A0):=⟨_,rfl⟩
 have ae:=nD (a:=0) (b:=q) ab h0 (by omega) (by omega)
 have c6:=gR (xs:=x) (a:=0) (b:=q) (by omega)
 refine Y.dk rfl rfl .z (jT (a:=0) (b:=q) rfl dQ fS (.t .g1) ab (.inl ⟨rfl,rfl⟩) (.inr ⟨_,_,rfl,(.t .z)⟩) (by omega) (by omega) (by omega)) ?_
 refine Y.dk rfl rfl .z (qW rfl uP (.t (.s16 .g3)) .z fS) (Y.dm rfl rfl .z (.s16 .g5) (Y.dm rfl rfl .z (.s16 .g3) ?_))
 obtain⟨c7,ac⟩:∃A':Option Addr,A'=(if c0=q then A0 else Option.map (fun z=>Addr.add z (q * 2)) A0):=⟨_,rfl⟩
 have af:=nD (a:=q) (b:=x.length) ac h0 (by omega) (by omega)
 have c8:=gR (xs:=x) (a:=q) (b:=x.length) (by omega)
 refine Y.dk rfl rfl .z (jT (a:=q) (b:=x.length) rfl dQ fS (.t .g1) ac (.inr ⟨_,_,rfl,(.t .z)⟩) (.inl ⟨rfl,rfl⟩) (by omega) (by omega) (by omega)) ?_
 refine Y.aa ?_
 refine Y.av (i:=0) (j:=6) (by kernel_rfl) ?_ ?_
 refine Y.e (aC rfl rfl) rfl (by decide) rfl (dW rfl dQ (inz eF)) ?_
 rintro _ _ ⟨g36,rfl,rfl⟩
 refine Y.sk .g1 ?_
 refine Y.aa ?_
 refine Y.sc [] (by kernel_rfl) ?_
 refine Y.aa ?_
 refine Y.av (i:=4) (j:=6) (by kernel_rfl) ?_ ?_
 refine Y.add (c:=aG dL ([]:(List bT)) [.slice (some ⟨g36,0,none⟩) 0 0]) (fun w S=>aK w S _) ?_
 refine Y.e (aC rfl rfl) rfl (by decide) rfl (dU (gY _ (gD (bI _ _ _) (bI _ _ _))) rfl dQ eF rfl (.t .z) (.t .g5) (.c .z .n) (fun w1 S1 tr=>tr.ctx ae) (by first | omega |(simp only [List.length_append,List.length_take,List.length_nil,List.length_cons];omega)) (by first | omega |(simp only [List.length_append,List.length_take,List.length_nil,List.length_cons];omega))) ?_
 rintro _ _ rfl
 refine Y.af .z (List.nil_append _) ?_
 refine Y.i (WS.a .z) ?_
 rintro⟨c9,da,rfl,bm,bn,bo⟩
 refine Y.sk .g2 ?_
 refine Y.aa ?_
 refine Y.sc [(6,false),(7,false),(11,false),(12,false)] (by kernel_rfl) ?_
 refine Y.e (aC rfl rfl) rfl (by decide) rfl (aO (cs:= [.string e.name,.int .i64 e.ino]) rfl dQ (inz eF) (by decide) (pv1 (.t .g5)) rfl rfl (by decide) rfl rfl) ?_
 rintro _ _ ⟨g39,rfl,rfl⟩
 refine Y.sk .g3 ?_
 refine Y.ac (c:=aG kB (⟨e.name,e.ino⟩:bT) [.string e.name,.int .i64 e.ino]) .n (fun w S h=>iO (⟨e.name,e.ino⟩:bT) h (by assumption)) ?_
 refine Y.e (aC rfl rfl) rfl (by decide) rfl (dC rfl dQ eF rfl (.t .g1) (.t .z) (.c .g2 (.c .g1 (.c .z .n))) (by first | omega |(simp only [List.length_append,List.length_take,List.length_nil,List.length_cons];omega)) (by first | omega |(simp only [List.length_append,List.length_take,List.length_nil,List.length_cons];omega))) ?_
 rintro _ _ rfl
 refine Y.i (WS.a .z) ?_
 rintro⟨db,dc,rfl,bp,bq,br⟩
 refine Y.sk .g2 ?_
 refine Y.e (aC rfl rfl) rfl (by decide) rfl (dU (gY _ (gD (bI _ _ _) (bI _ _ _))) rfl dQ eF rfl (.t .z) (.t .g4) (.c .z .n) (fun w1 S1 tr=>tr.ctx af) (by first | omega |(simp only [List.length_append,List.length_take,List.length_nil,List.length_cons];omega)) (by first | omega |(simp only [List.length_append,List.length_take,List.length_nil,List.length_cons];omega))) ?_
 rintro _ _ rfl
 refine Y.i (WS.a .z) ?_
 rintro⟨dd,dg,rfl,bs,bt,bu⟩
 refine Y.sk .g2 ?_
 refine Y.er (.s16 .g11) ?_
 refine Y.q (aC rfl rfl) rfl (by decide) rfl (aA rfl (.t .z)) ?_
 refine Y.sl rfl ?_
 refine Y.aa ?_
 refine Y.ai (by kernel_rfl) ?_
 refine Y.g (Y.ret ?_)
 refine Y.af (x':=gG x e) .z (by rw [←rO (pQ hallq hq (.inl (by omega)))];simp [iQ]) ?_
 refine Y.j (aT rfl .z) (.c .z .n) ?_
 rfl
 refine Y.e (aC rfl rfl) rfl (by decide) rfl (aO (cs:= [.string e.name,.int .i64 e.ino]) rfl dQ (inz eF) (by decide) (pv1 (.t .g4)) rfl rfl (by decide) rfl rfl) ?_
 rintro _ _ ⟨g43,rfl,rfl⟩
 refine Y.sk .g2 ?_
 refine Y.aa ?_
 refine Y.sc [(4,false),(7,false),(11,false),(12,false)] (by kernel_rfl) ?_
 refine Y.add (c:=aG dL ([]:(List bT)) [.slice (some ⟨g36,0,none⟩) 0 0]) (fun w S=>aK w S _) ?_
 refine Y.e (aC rfl rfl) rfl (by decide) rfl (dU (gY _ (gD (bI _ _ _) (bI _ _ _))) rfl dQ eF rfl (.t .g1) (.t .g6) (.c .z .n) (fun w1 S1 tr=>tr.ctx ae) (by first | omega |(simp only [List.length_append,List.length_take,List.length_nil,List.length_cons];omega)) (by first | omega |(simp only [List.length_append,List.length_take,List.length_nil,List.length_cons];omega))) ?_
 rintro _ _ rfl
 refine Y.af .z (List.nil_append _) ?_
 refine Y.i (WS.a .z) ?_
 rintro⟨dh,di,rfl,bv,bw,bx⟩
 refine Y.sk .g3 ?_
 refine Y.ac (c:=aG kB (⟨e.name,e.ino⟩:bT) [.string e.name,.int .i64 e.ino]) .n (fun w S h=>iO (⟨e.name,e.ino⟩:bT) h (by assumption)) ?_
 refine Y.e (aC rfl rfl) rfl (by decide) rfl (dC rfl dQ eF rfl (.t .z) (.t .g1) (.c .g1 (.c .g1 (.c .z .n))) (by first | omega |(simp only [List.length_append,List.length_take,List.length_nil,List.length_cons];omega)) (by first | omega |(simp only [List.length_append,List.length_take,List.length_nil,List.length_cons];omega))) ?_
 rintro _ _ rfl
 refine Y.i (WS.a .z) ?_
 rintro⟨dj,dp,rfl,bz,b0,b1⟩
 refine Y.sk .g2 ?_
 refine Y.e (aC rfl rfl) rfl (by decide) rfl (dU (gY _ (gD (bI _ _ _) (bI _ _ _))) rfl dQ eF rfl (.t .z) (.t .g4) (.c .z .n) (fun w1 S1 tr=>tr.ctx af) (by first | omega |(simp only [List.length_append,List.length_take,List.length_nil,List.length_cons];omega)) (by first | omega |(simp only [List.length_append,List.length_take,List.length_nil,List.length_cons];omega))) ?_
 rintro _ _ rfl
 refine Y.i (WS.a .z) ?_
 rintro⟨ds,dt,rfl,b2,b3,b4⟩
 refine Y.sk .g2 ?_
 refine Y.er (.s16 .g11) ?_
 refine Y.q (aC rfl rfl) rfl (by decide) rfl (aA rfl (.t .z)) ?_
 refine Y.sl rfl ?_
 refine Y.aa ?_
 refine Y.ai (by kernel_rfl) ?_
 refine Y.g (Y.ret ?_)
 refine Y.af (x':=gG x e) .z (by rw [←rO (pQ hallq hq (.inl (by omega)))];simp [iQ]) ?_
 refine Y.j (aT rfl .z) (.c .z .n) ?_
 rfl
 refine Y.e (aC rfl rfl) rfl (by decide) rfl (aO (cs:= [.string e.name,.int .i64 e.ino]) rfl dQ (inz eF) (by decide) (pv1 (.t .g3)) rfl rfl (by decide) rfl rfl) ?_
 rintro _ _ ⟨g49,rfl,rfl⟩
 refine Y.sk .g1 ?_
 refine Y.aa ?_
 refine Y.sc [(0,false),(4,false),(7,false),(11,false),(12,false)] (by kernel_rfl) ?_
 refine Y.e (aC rfl rfl) rfl (by decide) rfl (dW rfl dQ (inz eF)) ?_
 rintro _ _ ⟨g50,rfl,rfl⟩
 refine Y.sk .g2 ?_
 refine Y.add (c:=aG dL ([]:(List bT)) [.slice (some ⟨g50,0,none⟩) 0 0]) (fun w S=>aK w S _) ?_
 refine Y.e (aC rfl rfl) rfl (by decide) rfl (dU (gY _ (gD (bI _ _ _) (bI _ _ _))) rfl dQ eF rfl (.t .z) (.t .g6) (.c .z .n) (fun w1 S1 tr=>tr.ctx ae) (by first | omega |(simp only [List.length_append,List.length_take,List.length_nil,List.length_cons];omega)) (by first | omega |(simp only [List.length_append,List.length_take,List.length_nil,List.length_cons];omega))) ?_
 rintro _ _ rfl
 refine Y.af .z (List.nil_append _) ?_
 refine Y.i (WS.a .z) ?_
 rintro⟨du,dv,rfl,b5,b6,b8⟩
 refine Y.sk .g3 ?_
 refine Y.ac (c:=aG kB (⟨e.name,e.ino⟩:bT) [.string e.name,.int .i64 e.ino]) .n (fun w S h=>iO (⟨e.name,e.ino⟩:bT) h (by assumption)) ?_
 refine Y.e (aC rfl rfl) rfl (by decide) rfl (dC rfl dQ eF rfl (.t .z) (.t .g2) (.c .g1 (.c .g2 (.c .z .n))) (by first | omega |(simp only [List.length_append,List.length_take,List.length_nil,List.length_cons];omega)) (by first | omega |(simp only [List.length_append,List.length_take,List.length_nil,List.length_cons];omega))) ?_
 rintro _ _ rfl
 refine Y.i (WS.a .z) ?_
 rintro⟨dw,dx,rfl,b9,ca,cb⟩
 refine Y.sk .g2 ?_
 refine Y.e (aC rfl rfl) rfl (by decide) rfl (dU (gY _ (gD (bI _ _ _) (bI _ _ _))) rfl dQ eF rfl (.t .z) (.t .g4) (.c .z .n) (fun w1 S1 tr=>tr.ctx af) (by first | omega |(simp only [List.length_append,List.length_take,List.length_nil,List.length_cons];omega)) (by first | omega |(simp only [List.length_append,List.length_take,List.length_nil,List.length_cons];omega))) ?_
 rintro _ _ rfl
 refine Y.i (WS.a .z) ?_
 rintro⟨dy,dz,rfl,cc,cd,ce⟩
 refine Y.sk .g2 ?_
 refine Y.er (.s16 .g11) ?_
 refine Y.q (aC rfl rfl) rfl (by decide) rfl (aA rfl (.t .z)) ?_
 refine Y.sl rfl ?_
 refine Y.aa ?_
 refine Y.ai (by kernel_rfl) ?_
 refine Y.g (Y.ret ?_)
 refine Y.af (x':=gG x e) .z (by rw [←rO (pQ hallq hq (.inl (by omega)))];simp [iQ]) ?_
 refine Y.j (aT rfl .z) (.c .z .n) ?_
 rfl

end Go.Proofs.YtmejbfmhaoilmaaGreat

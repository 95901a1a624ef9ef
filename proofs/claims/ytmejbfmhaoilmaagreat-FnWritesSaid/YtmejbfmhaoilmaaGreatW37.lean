/- What is proved: contracts of functions, one a function. No condition. -/
import Derived.Test.YtmejbfmhaoilmaaGreatBase1
import Derived.Test.YtmejbfmhaoilmaaGreatW36
import Derived.Test.YtmejbfmhaoilmaaGreatBase2
namespace Go.Proofs.YtmejbfmhaoilmaaGreat
open Go Go.RowKit
set_option linter.unusedVariables false
set_option linter.unusedSimpArgs false
set_option maxHeartbeats 1000000
set_option maxRecDepth 20000
theorem aD7 {w0:World}{S0:Bs}{x:(List bV)}{v0:Value} (h0:dR.ro w0 (FF w0 S0) x [v0]) {e:bV}{aq:List Value} (h1:kJ.ro w0 (FF w0 S0) e aq) (d0:x.length≤6):
    Calls Tryz.prog 128 #[v0,.agg aq.toArray] w0 (aJ w0 S0 (fun r l=>l= [aG dR (gN x e) [r]])):=by
 obtain⟨A0,c0,rfl,d1,d2,d3,cf⟩:=aD h0
 obtain⟨rfl,cg⟩:=fV h1
 refine Y.enter (N:=34) Tryz.func128 rfl rfl (by simp) [(0,.slice A0 x.length c0),(1,.agg #[.string e.name,.int .i64 e.ino])] (by simp) (l0:= []) trivial ?_
 refine Y.seq (Y.region ?_)
 refine Y.el rfl (gL (cs:= [.string e.name,.int .i64 e.ino]) (n:=2) rfl (.t .g1) rfl rfl) ?_
 rintro _ _ ⟨g2,rfl,rfl⟩
 refine Y.ql rfl (aA rfl .c) (Y.nt (Y.seq (Y.region (Y.ql rfl (aA rfl .c) (Y.nt (Y.seq ?_))))))
 refine Y.block ?_
 refine Y.ak (γ:=Nat) (fun q=> [(5,.int .i64 (q:Int)),(4,.slice none 0 0),(3,.pointer (some ⟨g2,0,none⟩)),(0,.slice A0 x.length c0)]) (fun q=> [bW g2 46 2 1 [.string e.name,.int .i64 e.ino]]) (fun q=>q≤x.length∧∀(j:Nat) (y:bV),j<q→x[j]? =some y→sLt y.name e.name=true) (fun q=>x.length - q) 0 ⟨Nat.zero_le _,eZ (q:=fun _ (y:bV)=>sLt y.name e.name=true)⟩ (.c .z (.c .g1 (.c .g2 (.c .g3 .n)))) (fun _ h=>h.sel (.c .z .n)) ?_
 rintro q ⟨hq,hallq⟩
 refine Y.seq (Y.seq ?_)
 have ag:(iP x 0 q).length=q - 0:=fW (by omega)
 refine Y.dr .z 14 gE ?_
 refine Y.sc (qs 0 5) (by kernel_rfl) ?_
 refine Y.dm rfl rfl .z .z (Y.dm rfl rfl .z .g4 (Y.dk rfl rfl .z (bE rfl eA (.t .z)) (Y.dk rfl rfl .z (cR rfl (.t .g2) (.t .z)) (Y.dm rfl rfl .z .z (Y.aa ?_)))))
 refine Y.am .z (fun g3=> ?_) (fun g3=> ?_)
 refine Y.sc (qs 5 9) (by kernel_rfl) ?_
 refine Y.ag rfl rfl rfl .z rfl (by decide) rfl .z (aN rfl (.t .g8)) ?_
 refine Y.ag rfl rfl rfl .g1 rfl (by decide) rfl .z (aN rfl (.t .g6)) ?_
 obtain⟨al,ah,ai⟩:=cf (by omega)
 subst ah
 obtain⟨x5,aj⟩:=aI (xs:=x) (j:=q) (by omega)
 obtain⟨ch,am,an,ao⟩:=ai.elem aj
 obtain⟨rfl,ar⟩:=fV am
 refine Y.ag rfl rfl rfl .g2 rfl (by decide) rfl .z (aB (j:=q) rfl eA gH (.t .g1) (.t .z) rfl (by omega)) ?_
 refine Y.ag rfl rfl rfl .g3 rfl (by decide) rfl .z (aS rfl (.t .z) (fun _=>mX _ _)) ?_
 refine Y.ag rfl rfl rfl .g4 rfl (by decide) rfl .z (aP rfl kY (.t .z) (WS.el an ao rfl)) ?_
 refine Y.ag rfl rfl rfl .g5 rfl (by decide) rfl .z (aS rfl (.t .g12) (fun _=>mX _ _)) ?_
 refine Y.ag rfl rfl rfl .g6 rfl (by decide) rfl .z (aP rfl kY (.t .z) (WS.h .z rfl)) ?_
 refine Y.ag rfl rfl rfl .g7 rfl (by decide) rfl .z (aJ2 rfl (.t .g2) (.t .z)) ?_
 refine Y.dk rfl rfl .z (aZ rfl (.t .g8) (.t .z)) (Y.aa ?_)
 refine Y.ai (by kernel_rfl) ?_
 refine Y.g ?_
 refine Y.cond (.t .z) (fun b7=> ?_) (fun b7=> ?_)
 refine Y.skip (Y.g (Y.block (Y.region (Y.mv rfl .g14 ?_))))
 refine Y.ql rfl (bA (c:=((q+1:Nat):Int)) rfl (.t .z) .c (wr (by omega) (by omega) (by omega))) ?_
 refine Y.er .g16 (Y.as rfl .z (Y.nil (Y.w ?_)))
 refine Y.ae (q+1) ⟨by omega,eC (q:=fun _ (y:bV)=>sLt y.name e.name=true) hallq aj (by assumption)⟩ (by first | omega |(dsimp only;omega)) (.c .z (.c (.s16 .g1) (.c (.s16 .g2) (.c (.s16 .g3) .n)))) (fun _ h=>h.sel (.c .z .n))
 refine Y.exit (Y.y (Y.y (Y.aj (Y.g (Y.seq ?_)))))
 have ag:(iP x 0 q).length=q - 0:=fW (by omega)
 refine Y.dr .z 12 gE ?_
 refine Y.sc (qs 1 3++ [(5,true)]++qs 8 3) (by kernel_rfl) ?_
 refine Y.dm rfl rfl .z (.s16 .g1) (Y.dm rfl rfl .z .g15 ?_)
 obtain⟨d4,ak⟩:∃A':Option Addr,A'=(if c0=0 then(some al)else Option.map (fun z=>Addr.add z (0 * 2)) (some al)):=⟨_,rfl⟩
 have ap:=mQ (a:=0) (b:=q) ak h0 (by omega) (by omega)
 have d5:=fW (xs:=x) (a:=0) (b:=q) (by omega)
 refine Y.dk rfl rfl .z (iZ (a:=0) (b:=q) rfl eA gH (.t .g1) ak (.inl ⟨rfl,rfl⟩) (.inr ⟨_,_,rfl,(.t .z)⟩) (by omega) (by omega) (by omega)) ?_
 refine Y.dk rfl rfl .z (qW rfl yU (.t (.s16 .g3)) .z gH) (Y.dm rfl rfl .z (.s16 .g5) (Y.dm rfl rfl .z (.s16 .g3) ?_))
 obtain⟨ci,aa⟩:∃A':Option Addr,A'=(if c0=q then(some al)else Option.map (fun z=>Addr.add z (q * 2)) (some al)):=⟨_,rfl⟩
 have ad:=mQ (a:=q) (b:=x.length) aa h0 (by omega) (by omega)
 have cj:=fW (xs:=x) (a:=q) (b:=x.length) (by omega)
 refine Y.dk rfl rfl .z (iZ (a:=q) (b:=x.length) rfl eA gH (.t .g1) aa (.inr ⟨_,_,rfl,(.t .z)⟩) (.inl ⟨rfl,rfl⟩) (by omega) (by omega) (by omega)) ?_
 refine Y.aa ?_
 refine Y.ar (i:=0) (j:=6) (by kernel_rfl) ?_ ?_
 refine Y.e (aC rfl rfl) rfl (by decide) rfl (dZ rfl eA (inz eH)) ?_
 rintro _ _ ⟨g12,rfl,rfl⟩
 refine Y.sk .g1 ?_
 refine Y.aa ?_
 refine Y.sc [] (by kernel_rfl) ?_
 refine Y.aa ?_
 refine Y.ar (i:=4) (j:=6) (by kernel_rfl) ?_ ?_
 refine Y.add (c:=aG dR ([]:(List bV)) [.slice (some ⟨g12,0,none⟩) 0 0]) (fun w S=>aL w S _) ?_
 refine Y.e (aC rfl rfl) rfl (by decide) rfl (dY (gZ _ (gI (bI _ _ _) (bI _ _ _))) rfl eA eH rfl (.t .z) (.t .g5) (.c .z .n) (fun w1 S1 tr=>tr.ctx ap) (by first | omega |(simp only [List.length_append,List.length_take,List.length_nil,List.length_cons];omega)) (by first | omega |(simp only [List.length_append,List.length_take,List.length_nil,List.length_cons];omega))) ?_
 rintro _ _ rfl
 refine Y.ah .z (List.nil_append _) ?_
 refine Y.h (WS.a .z) ?_
 rintro⟨ck,cm,rfl,au,av,aw⟩
 refine Y.sk .g2 ?_
 refine Y.aa ?_
 refine Y.sc [(6,false),(7,false),(11,false),(12,false)] (by kernel_rfl) ?_
 refine Y.e (aC rfl rfl) rfl (by decide) rfl (aM (cs:= [.string e.name,.int .i64 e.ino]) rfl eA (inz eH) (by decide) (pv1 (.t .g5)) rfl rfl (by decide) rfl rfl) ?_
 rintro _ _ ⟨g15,rfl,rfl⟩
 refine Y.sk .g3 ?_
 refine Y.af (c:=aG kJ (⟨e.name,e.ino⟩:bV) [.string e.name,.int .i64 e.ino]) .n (fun w S h=>iU (⟨e.name,e.ino⟩:bV) h (by assumption)) ?_
 refine Y.e (aC rfl rfl) rfl (by decide) rfl (dD rfl eA eH rfl (.t .g1) (.t .z) (.c .g2 (.c .g1 (.c .z .n))) (by first | omega |(simp only [List.length_append,List.length_take,List.length_nil,List.length_cons];omega)) (by first | omega |(simp only [List.length_append,List.length_take,List.length_nil,List.length_cons];omega))) ?_
 rintro _ _ rfl
 refine Y.h (WS.a .z) ?_
 rintro⟨cn,co,rfl,ax,ay,az⟩
 refine Y.sk .g2 ?_
 refine Y.e (aC rfl rfl) rfl (by decide) rfl (dY (gZ _ (gI (bI _ _ _) (bI _ _ _))) rfl eA eH rfl (.t .z) (.t .g4) (.c .z .n) (fun w1 S1 tr=>tr.ctx ad) (by first | omega |(simp only [List.length_append,List.length_take,List.length_nil,List.length_cons];omega)) (by first | omega |(simp only [List.length_append,List.length_take,List.length_nil,List.length_cons];omega))) ?_
 rintro _ _ rfl
 refine Y.h (WS.a .z) ?_
 rintro⟨cp,cq,rfl,a0,a1,a2⟩
 refine Y.sk .g2 ?_
 refine Y.er (.s16 .g11) ?_
 refine Y.q (aC rfl rfl) rfl (by decide) rfl (aA rfl (.t .z)) ?_
 refine Y.sl rfl ?_
 refine Y.aa ?_
 refine Y.ai (by kernel_rfl) ?_
 refine Y.g (Y.ret ?_)
 refine Y.ah (x':=gN x e) .z (by rw [←rW (pU hallq hq (.inr ⟨_,aj,by first | assumption | simp_all⟩))];simp [iP]) ?_
 refine Y.i (aT rfl .z) (.c .z .n) ?_
 rfl
 refine Y.e (aC rfl rfl) rfl (by decide) rfl (aM (cs:= [.string e.name,.int .i64 e.ino]) rfl eA (inz eH) (by decide) (pv1 (.t .g4)) rfl rfl (by decide) rfl rfl) ?_
 rintro _ _ ⟨g19,rfl,rfl⟩
 refine Y.sk .g2 ?_
 refine Y.aa ?_
 refine Y.sc [(4,false),(7,false),(11,false),(12,false)] (by kernel_rfl) ?_
 refine Y.add (c:=aG dR ([]:(List bV)) [.slice (some ⟨g12,0,none⟩) 0 0]) (fun w S=>aL w S _) ?_
 refine Y.e (aC rfl rfl) rfl (by decide) rfl (dY (gZ _ (gI (bI _ _ _) (bI _ _ _))) rfl eA eH rfl (.t .g1) (.t .g6) (.c .z .n) (fun w1 S1 tr=>tr.ctx ap) (by first | omega |(simp only [List.length_append,List.length_take,List.length_nil,List.length_cons];omega)) (by first | omega |(simp only [List.length_append,List.length_take,List.length_nil,List.length_cons];omega))) ?_
 rintro _ _ rfl
 refine Y.ah .z (List.nil_append _) ?_
 refine Y.h (WS.a .z) ?_
 rintro⟨cr,ct,rfl,a3,a4,a5⟩
 refine Y.sk .g3 ?_
 refine Y.af (c:=aG kJ (⟨e.name,e.ino⟩:bV) [.string e.name,.int .i64 e.ino]) .n (fun w S h=>iU (⟨e.name,e.ino⟩:bV) h (by assumption)) ?_
 refine Y.e (aC rfl rfl) rfl (by decide) rfl (dD rfl eA eH rfl (.t .z) (.t .g1) (.c .g1 (.c .g1 (.c .z .n))) (by first | omega |(simp only [List.length_append,List.length_take,List.length_nil,List.length_cons];omega)) (by first | omega |(simp only [List.length_append,List.length_take,List.length_nil,List.length_cons];omega))) ?_
 rintro _ _ rfl
 refine Y.h (WS.a .z) ?_
 rintro⟨cu,cv,rfl,a6,a7,a8⟩
 refine Y.sk .g2 ?_
 refine Y.e (aC rfl rfl) rfl (by decide) rfl (dY (gZ _ (gI (bI _ _ _) (bI _ _ _))) rfl eA eH rfl (.t .z) (.t .g4) (.c .z .n) (fun w1 S1 tr=>tr.ctx ad) (by first | omega |(simp only [List.length_append,List.length_take,List.length_nil,List.length_cons];omega)) (by first | omega |(simp only [List.length_append,List.length_take,List.length_nil,List.length_cons];omega))) ?_
 rintro _ _ rfl
 refine Y.h (WS.a .z) ?_
 rintro⟨cw,cx,rfl,a9,ba,bb⟩
 refine Y.sk .g2 ?_
 refine Y.er (.s16 .g11) ?_
 refine Y.q (aC rfl rfl) rfl (by decide) rfl (aA rfl (.t .z)) ?_
 refine Y.sl rfl ?_
 refine Y.aa ?_
 refine Y.ai (by kernel_rfl) ?_
 refine Y.g (Y.ret ?_)
 refine Y.ah (x':=gN x e) .z (by rw [←rW (pU hallq hq (.inr ⟨_,aj,by first | assumption | simp_all⟩))];simp [iP]) ?_
 refine Y.i (aT rfl .z) (.c .z .n) ?_
 rfl
 refine Y.e (aC rfl rfl) rfl (by decide) rfl (aM (cs:= [.string e.name,.int .i64 e.ino]) rfl eA (inz eH) (by decide) (pv1 (.t .g3)) rfl rfl (by decide) rfl rfl) ?_
 rintro _ _ ⟨g25,rfl,rfl⟩
 refine Y.sk .g1 ?_
 refine Y.aa ?_
 refine Y.sc [(0,false),(4,false),(7,false),(11,false),(12,false)] (by kernel_rfl) ?_
 refine Y.e (aC rfl rfl) rfl (by decide) rfl (dZ rfl eA (inz eH)) ?_
 rintro _ _ ⟨g26,rfl,rfl⟩
 refine Y.sk .g2 ?_
 refine Y.add (c:=aG dR ([]:(List bV)) [.slice (some ⟨g26,0,none⟩) 0 0]) (fun w S=>aL w S _) ?_
 refine Y.e (aC rfl rfl) rfl (by decide) rfl (dY (gZ _ (gI (bI _ _ _) (bI _ _ _))) rfl eA eH rfl (.t .z) (.t .g6) (.c .z .n) (fun w1 S1 tr=>tr.ctx ap) (by first | omega |(simp only [List.length_append,List.length_take,List.length_nil,List.length_cons];omega)) (by first | omega |(simp only [List.length_append,List.length_take,List.length_nil,List.length_cons];omega))) ?_
 rintro _ _ rfl
 refine Y.ah .z (List.nil_append _) ?_
 refine Y.h (WS.a .z) ?_
 rintro⟨cy,cz,rfl,bc,bd,be⟩
 refine Y.sk .g3 ?_
 refine Y.af (c:=aG kJ (⟨e.name,e.ino⟩:bV) [.string e.name,.int .i64 e.ino]) .n (fun w S h=>iU (⟨e.name,e.ino⟩:bV) h (by assumption)) ?_
 refine Y.e (aC rfl rfl) rfl (by decide) rfl (dD rfl eA eH rfl (.t .z) (.t .g2) (.c .g1 (.c .g2 (.c .z .n))) (by first | omega |(simp only [List.length_append,List.length_take,List.length_nil,List.length_cons];omega)) (by first | omega |(simp only [List.length_append,List.length_take,List.length_nil,List.length_cons];omega))) ?_
 rintro _ _ rfl
 refine Y.h (WS.a .z) ?_
 rintro⟨c1,c2,rfl,bf,bg,bh⟩
 refine Y.sk .g2 ?_
 refine Y.e (aC rfl rfl) rfl (by decide) rfl (dY (gZ _ (gI (bI _ _ _) (bI _ _ _))) rfl eA eH rfl (.t .z) (.t .g4) (.c .z .n) (fun w1 S1 tr=>tr.ctx ad) (by first | omega |(simp only [List.length_append,List.length_take,List.length_nil,List.length_cons];omega)) (by first | omega |(simp only [List.length_append,List.length_take,List.length_nil,List.length_cons];omega))) ?_
 rintro _ _ rfl
 refine Y.h (WS.a .z) ?_
 rintro⟨c3,c4,rfl,bi,bj,bk⟩
 refine Y.sk .g2 ?_
 refine Y.er (.s16 .g11) ?_
 refine Y.q (aC rfl rfl) rfl (by decide) rfl (aA rfl (.t .z)) ?_
 refine Y.sl rfl ?_
 refine Y.aa ?_
 refine Y.ai (by kernel_rfl) ?_
 refine Y.g (Y.ret ?_)
 refine Y.ah (x':=gN x e) .z (by rw [←rW (pU hallq hq (.inr ⟨_,aj,by first | assumption | simp_all⟩))];simp [iP]) ?_
 refine Y.i (aT rfl .z) (.c .z .n) ?_
 rfl
 refine Y.sc (qs 5 8++ [(13,false)]) (by kernel_rfl) ?_
 refine Y.ad rfl rfl rfl .z rfl rfl (by decide) rfl .z ?_
 refine Y.ad rfl rfl rfl .g1 rfl rfl (by decide) rfl .z ?_
 refine Y.ad rfl rfl rfl .g2 rfl rfl (by decide) rfl .z ?_
 refine Y.ad rfl rfl rfl .g3 rfl rfl (by decide) rfl .z ?_
 refine Y.ad rfl rfl rfl .g4 rfl rfl (by decide) rfl .z ?_
 refine Y.ad rfl rfl rfl .g5 rfl rfl (by decide) rfl .z ?_
 refine Y.ad rfl rfl rfl .g6 rfl rfl (by decide) rfl .z ?_
 refine Y.ad rfl rfl rfl .g7 rfl rfl (by decide) rfl .z ?_
 refine Y.q (aC rfl rfl) rfl (by decide) rfl (bJ rfl (.t .g8) .c) ?_
 refine Y.sk .z ?_
 refine Y.aa ?_
 refine Y.ai (by kernel_rfl) ?_
 refine Y.g ?_
 refine Y.an (.t .z) ?_
 refine Y.exit (Y.y (Y.y (Y.aj (Y.g (Y.seq ?_)))))
 have ag:(iP x 0 q).length=q - 0:=fW (by omega)
 refine Y.dr .z 12 gE ?_
 refine Y.sc (qs 1 3++ [(5,true)]++qs 8 3) (by kernel_rfl) ?_
 refine Y.dm rfl rfl .z (.s16 .g1) (Y.dm rfl rfl .z .g15 ?_)
 obtain⟨c5,ab⟩:∃A':Option Addr,A'=(if c0=0 then A0 else Option.map (fun z=>Addr.add z (0 * 2)) A0):=⟨_,rfl⟩
 have ae:=mQ (a:=0) (b:=q) ab h0 (by omega) (by omega)
 have c6:=fW (xs:=x) (a:=0) (b:=q) (by omega)
 refine Y.dk rfl rfl .z (iZ (a:=0) (b:=q) rfl eA gH (.t .g1) ab (.inl ⟨rfl,rfl⟩) (.inr ⟨_,_,rfl,(.t .z)⟩) (by omega) (by omega) (by omega)) ?_
 refine Y.dk rfl rfl .z (qW rfl yU (.t (.s16 .g3)) .z gH) (Y.dm rfl rfl .z (.s16 .g5) (Y.dm rfl rfl .z (.s16 .g3) ?_))
 obtain⟨c7,ac⟩:∃A':Option Addr,A'=(if c0=q then A0 else Option.map (fun z=>Addr.add z (q * 2)) A0):=⟨_,rfl⟩
 have af:=mQ (a:=q) (b:=x.length) ac h0 (by omega) (by omega)
 have c8:=fW (xs:=x) (a:=q) (b:=x.length) (by omega)
 refine Y.dk rfl rfl .z (iZ (a:=q) (b:=x.length) rfl eA gH (.t .g1) ac (.inr ⟨_,_,rfl,(.t .z)⟩) (.inl ⟨rfl,rfl⟩) (by omega) (by omega) (by omega)) ?_
 refine Y.aa ?_
 refine Y.ar (i:=0) (j:=6) (by kernel_rfl) ?_ ?_
 refine Y.e (aC rfl rfl) rfl (by decide) rfl (dZ rfl eA (inz eH)) ?_
 rintro _ _ ⟨g36,rfl,rfl⟩
 refine Y.sk .g1 ?_
 refine Y.aa ?_
 refine Y.sc [] (by kernel_rfl) ?_
 refine Y.aa ?_
 refine Y.ar (i:=4) (j:=6) (by kernel_rfl) ?_ ?_
 refine Y.add (c:=aG dR ([]:(List bV)) [.slice (some ⟨g36,0,none⟩) 0 0]) (fun w S=>aL w S _) ?_
 refine Y.e (aC rfl rfl) rfl (by decide) rfl (dY (gZ _ (gI (bI _ _ _) (bI _ _ _))) rfl eA eH rfl (.t .z) (.t .g5) (.c .z .n) (fun w1 S1 tr=>tr.ctx ae) (by first | omega |(simp only [List.length_append,List.length_take,List.length_nil,List.length_cons];omega)) (by first | omega |(simp only [List.length_append,List.length_take,List.length_nil,List.length_cons];omega))) ?_
 rintro _ _ rfl
 refine Y.ah .z (List.nil_append _) ?_
 refine Y.h (WS.a .z) ?_
 rintro⟨c9,da,rfl,bm,bn,bo⟩
 refine Y.sk .g2 ?_
 refine Y.aa ?_
 refine Y.sc [(6,false),(7,false),(11,false),(12,false)] (by kernel_rfl) ?_
 refine Y.e (aC rfl rfl) rfl (by decide) rfl (aM (cs:= [.string e.name,.int .i64 e.ino]) rfl eA (inz eH) (by decide) (pv1 (.t .g5)) rfl rfl (by decide) rfl rfl) ?_
 rintro _ _ ⟨g39,rfl,rfl⟩
 refine Y.sk .g3 ?_
 refine Y.af (c:=aG kJ (⟨e.name,e.ino⟩:bV) [.string e.name,.int .i64 e.ino]) .n (fun w S h=>iU (⟨e.name,e.ino⟩:bV) h (by assumption)) ?_
 refine Y.e (aC rfl rfl) rfl (by decide) rfl (dD rfl eA eH rfl (.t .g1) (.t .z) (.c .g2 (.c .g1 (.c .z .n))) (by first | omega |(simp only [List.length_append,List.length_take,List.length_nil,List.length_cons];omega)) (by first | omega |(simp only [List.length_append,List.length_take,List.length_nil,List.length_cons];omega))) ?_
 rintro _ _ rfl
 refine Y.h (WS.a .z) ?_
 rintro⟨db,dc,rfl,bp,bq,br⟩
 refine Y.sk .g2 ?_
 refine Y.e (aC rfl rfl) rfl (by decide) rfl (dY (gZ _ (gI (bI _ _ _) (bI _ _ _))) rfl eA eH rfl (.t .z) (.t .g4) (.c .z .n) (fun w1 S1 tr=>tr.ctx af) (by first | omega |(simp only [List.length_append,List.length_take,List.length_nil,List.length_cons];omega)) (by first | omega |(simp only [List.length_append,List.length_take,List.length_nil,List.length_cons];omega))) ?_
 rintro _ _ rfl
 refine Y.h (WS.a .z) ?_
 rintro⟨dd,dg,rfl,bs,bt,bu⟩
 refine Y.sk .g2 ?_
 refine Y.er (.s16 .g11) ?_
 refine Y.q (aC rfl rfl) rfl (by decide) rfl (aA rfl (.t .z)) ?_
 refine Y.sl rfl ?_
 refine Y.aa ?_
 refine Y.ai (by kernel_rfl) ?_
 refine Y.g (Y.ret ?_)
 refine Y.ah (x':=gN x e) .z (by rw [←rW (pU hallq hq (.inl (by omega)))];simp [iP]) ?_
 refine Y.i (aT rfl .z) (.c .z .n) ?_
 rfl
 refine Y.e (aC rfl rfl) rfl (by decide) rfl (aM (cs:= [.string e.name,.int .i64 e.ino]) rfl eA (inz eH) (by decide) (pv1 (.t .g4)) rfl rfl (by decide) rfl rfl) ?_
 rintro _ _ ⟨g43,rfl,rfl⟩
 refine Y.sk .g2 ?_
 refine Y.aa ?_
 refine Y.sc [(4,false),(7,false),(11,false),(12,false)] (by kernel_rfl) ?_
 refine Y.add (c:=aG dR ([]:(List bV)) [.slice (some ⟨g36,0,none⟩) 0 0]) (fun w S=>aL w S _) ?_
 refine Y.e (aC rfl rfl) rfl (by decide) rfl (dY (gZ _ (gI (bI _ _ _) (bI _ _ _))) rfl eA eH rfl (.t .g1) (.t .g6) (.c .z .n) (fun w1 S1 tr=>tr.ctx ae) (by first | omega |(simp only [List.length_append,List.length_take,List.length_nil,List.length_cons];omega)) (by first | omega |(simp only [List.length_append,List.length_take,List.length_nil,List.length_cons];omega))) ?_
 rintro _ _ rfl
 refine Y.ah .z (List.nil_append _) ?_
 refine Y.h (WS.a .z) ?_
 rintro⟨dh,di,rfl,bv,bw,bx⟩
 refine Y.sk .g3 ?_
 refine Y.af (c:=aG kJ (⟨e.name,e.ino⟩:bV) [.string e.name,.int .i64 e.ino]) .n (fun w S h=>iU (⟨e.name,e.ino⟩:bV) h (by assumption)) ?_
 refine Y.e (aC rfl rfl) rfl (by decide) rfl (dD rfl eA eH rfl (.t .z) (.t .g1) (.c .g1 (.c .g1 (.c .z .n))) (by first | omega |(simp only [List.length_append,List.length_take,List.length_nil,List.length_cons];omega)) (by first | omega |(simp only [List.length_append,List.length_take,List.length_nil,List.length_cons];omega))) ?_
 rintro _ _ rfl
 refine Y.h (WS.a .z) ?_
 rintro⟨dj,dp,rfl,bz,b0,b1⟩
 refine Y.sk .g2 ?_
 refine Y.e (aC rfl rfl) rfl (by decide) rfl (dY (gZ _ (gI (bI _ _ _) (bI _ _ _))) rfl eA eH rfl (.t .z) (.t .g4) (.c .z .n) (fun w1 S1 tr=>tr.ctx af) (by first | omega |(simp only [List.length_append,List.length_take,List.length_nil,List.length_cons];omega)) (by first | omega |(simp only [List.length_append,List.length_take,List.length_nil,List.length_cons];omega))) ?_
 rintro _ _ rfl
 refine Y.h (WS.a .z) ?_
 rintro⟨ds,dt,rfl,b2,b3,b4⟩
 refine Y.sk .g2 ?_
 refine Y.er (.s16 .g11) ?_
 refine Y.q (aC rfl rfl) rfl (by decide) rfl (aA rfl (.t .z)) ?_
 refine Y.sl rfl ?_
 refine Y.aa ?_
 refine Y.ai (by kernel_rfl) ?_
 refine Y.g (Y.ret ?_)
 refine Y.ah (x':=gN x e) .z (by rw [←rW (pU hallq hq (.inl (by omega)))];simp [iP]) ?_
 refine Y.i (aT rfl .z) (.c .z .n) ?_
 rfl
 refine Y.e (aC rfl rfl) rfl (by decide) rfl (aM (cs:= [.string e.name,.int .i64 e.ino]) rfl eA (inz eH) (by decide) (pv1 (.t .g3)) rfl rfl (by decide) rfl rfl) ?_
 rintro _ _ ⟨g49,rfl,rfl⟩
 refine Y.sk .g1 ?_
 refine Y.aa ?_
 refine Y.sc [(0,false),(4,false),(7,false),(11,false),(12,false)] (by kernel_rfl) ?_
 refine Y.e (aC rfl rfl) rfl (by decide) rfl (dZ rfl eA (inz eH)) ?_
 rintro _ _ ⟨g50,rfl,rfl⟩
 refine Y.sk .g2 ?_
 refine Y.add (c:=aG dR ([]:(List bV)) [.slice (some ⟨g50,0,none⟩) 0 0]) (fun w S=>aL w S _) ?_
 refine Y.e (aC rfl rfl) rfl (by decide) rfl (dY (gZ _ (gI (bI _ _ _) (bI _ _ _))) rfl eA eH rfl (.t .z) (.t .g6) (.c .z .n) (fun w1 S1 tr=>tr.ctx ae) (by first | omega |(simp only [List.length_append,List.length_take,List.length_nil,List.length_cons];omega)) (by first | omega |(simp only [List.length_append,List.length_take,List.length_nil,List.length_cons];omega))) ?_
 rintro _ _ rfl
 refine Y.ah .z (List.nil_append _) ?_
 refine Y.h (WS.a .z) ?_
 rintro⟨du,dv,rfl,b5,b6,b8⟩
 refine Y.sk .g3 ?_
 refine Y.af (c:=aG kJ (⟨e.name,e.ino⟩:bV) [.string e.name,.int .i64 e.ino]) .n (fun w S h=>iU (⟨e.name,e.ino⟩:bV) h (by assumption)) ?_
 refine Y.e (aC rfl rfl) rfl (by decide) rfl (dD rfl eA eH rfl (.t .z) (.t .g2) (.c .g1 (.c .g2 (.c .z .n))) (by first | omega |(simp only [List.length_append,List.length_take,List.length_nil,List.length_cons];omega)) (by first | omega |(simp only [List.length_append,List.length_take,List.length_nil,List.length_cons];omega))) ?_
 rintro _ _ rfl
 refine Y.h (WS.a .z) ?_
 rintro⟨dw,dx,rfl,b9,ca,cb⟩
 refine Y.sk .g2 ?_
 refine Y.e (aC rfl rfl) rfl (by decide) rfl (dY (gZ _ (gI (bI _ _ _) (bI _ _ _))) rfl eA eH rfl (.t .z) (.t .g4) (.c .z .n) (fun w1 S1 tr=>tr.ctx af) (by first | omega |(simp only [List.length_append,List.length_take,List.length_nil,List.length_cons];omega)) (by first | omega |(simp only [List.length_append,List.length_take,List.length_nil,List.length_cons];omega))) ?_
 rintro _ _ rfl
 refine Y.h (WS.a .z) ?_
 rintro⟨dy,dz,rfl,cc,cd,ce⟩
 refine Y.sk .g2 ?_
 refine Y.er (.s16 .g11) ?_
 refine Y.q (aC rfl rfl) rfl (by decide) rfl (aA rfl (.t .z)) ?_
 refine Y.sl rfl ?_
 refine Y.aa ?_
 refine Y.ai (by kernel_rfl) ?_
 refine Y.g (Y.ret ?_)
 refine Y.ah (x':=gN x e) .z (by rw [←rW (pU hallq hq (.inl (by omega)))];simp [iP]) ?_
 refine Y.i (aT rfl .z) (.c .z .n) ?_
 rfl

end Go.Proofs.YtmejbfmhaoilmaaGreat

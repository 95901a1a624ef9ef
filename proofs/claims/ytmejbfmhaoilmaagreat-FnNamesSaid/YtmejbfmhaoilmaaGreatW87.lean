/- What is proved: contracts of functions, one a function. No condition. -/
import Derived.Test.YtmejbfmhaoilmaaGreatBase1
import Derived.Test.YtmejbfmhaoilmaaGreatW86
import Derived.Test.YtmejbfmhaoilmaaGreatBase2
namespace Go.Proofs.YtmejbfmhaoilmaaGreat
open Go Go.RowKit
set_option linter.unusedVariables false
set_option linter.unusedSimpArgs false
set_option maxHeartbeats 1000000
set_option maxRecDepth 20000
theorem aOf {w0:World}{S0:Bs}{g0 e0 s0:Nat}{am:List Value}{cd:List UInt8}{Ac:Option Addr}{cc:Nat} (hcd:cX.ro w0 (FF w0 S0) cd [.slice Ac cd.length cc]) {a:Int} (hs:cB [cM g0 e0 s0 1 ((.slice Ac cd.length cc) :: (.int .i64 a) :: am)] w0 S0) (ha:0≤a∧a≤800000):
    Calls Tryz.prog 49 #[.pointer (some ⟨g0,0,none⟩)] w0 (aJ w0 S0 (fun r l=>∃(f:DFs) (v0_ v1_:Value) (u:Int),(f.inodes.length≤11∧f.data.length≤20∧a≤u∧u≤a+2000)∧r= .agg #[v0_,v1_]∧l= [aG (iT aP) f.inodes [v0_],aG (iT cG) f.data [v1_],cM g0 e0 s0 1 (.slice Ac cd.length cc :: .int .i64 u :: am)])):=by
 obtain⟨hlc,hmc,hbc⟩:=nG hcd
 refine Y.enter (N:=62) Tryz.func49 rfl rfl (by simp) [(0,.pointer (some ⟨g0,0,none⟩))] (by simp) hs ?_
 refine Y.seq (Y.region ?_)
 refine Y.el rfl (bL rfl nF rfl rfl) ?_
 rintro _ _ ⟨g2,rfl,rfl⟩
 refine Y.nt (Y.seq (Y.region (Y.mv rfl .g1 (Y.mv rfl .g2 ?_))))
 refine Y.cl rfl rfl Tryz.func42 rfl rfl (aX (.t .z) .c) (.c .g1 .n) (fun _ _ hs tr=>mG (tr.ctx hcd) _ hs (by omega) (by omega)) ?_
 rintro _ _ ⟨m3,h0m3,h1m3,rfl,rfl⟩
 refine Y.m (.c .n) ?_
 refine Y.cl rfl rfl Tryz.func91 rfl rfl (aX (.t .g2) (.t .z)) (.c .z .n) (fun _ _ hs tr=>aNx (tr.ctx hcd) _ hs (by omega) (by omega)) ?_
 rintro _ _ ⟨ab,v6,v8,u4,a0,rfl,rfl⟩
 refine Y.m (.c (.c (.c .n))) ?_
 refine Y.h (WS.a .z) ?_
 rintro⟨ap,ad,rfl,bg,bh,bi⟩
 refine Y.h (WS.a .g1) ?_
 rintro⟨ag,ae,rfl,bj,bk,bm⟩
 obtain⟨af,hu1fs5,hu2fs5⟩:=a0
 have bn:=af.d
 have bo:=af.n
 refine Y.el rfl (bL rfl nF rfl rfl) ?_
 rintro _ _ ⟨g12,rfl,rfl⟩
 refine Y.es (aD rfl) rfl (esW rfl (.t .z) (.t .g1) .z aW rfl rfl) ?_
 refine Y.nt (Y.seq (Y.seq (Y.region (Y.mv rfl .g6 ?_))))
 refine Y.cl rfl rfl Tryz.func42 rfl rfl (aX (.t .z) .c) (.c .g3 .n) (fun _ _ hs tr=>mG (tr.ctx hcd) _ hs (by omega) (by omega)) ?_
 rintro _ _ ⟨c0,h0m13,h1m13,rfl,rfl⟩
 refine Y.m (.c .n) ?_
 refine Y.nt (Y.block (Y.seq (Y.region (Y.ql rfl (bZ rfl (.t .z) .c) (Y.as rfl .z (Y.nt ?_))))))
 refine Y.u (.t .z) (fun cj=> ?_) (fun cj=> ?_)
 refine Y.region (Y.mv rfl .g10 ?_)
 refine Y.cl rfl rfl Tryz.func92 rfl rfl (bT (.t .z)) (.c .z .n) (fun _ _ hs tr=>aN0 (tr.ctx hcd) hs (by omega)) ?_
 rintro _ _ ⟨aq,u16,ba,rfl⟩
 refine Y.m (.c (.c .n)) ?_
 refine Y.h (WS.a .z) ?_
 rintro⟨bb,bc,rfl,bp,bq,br⟩
 refine Y.fa rfl .g6 aO ?_
 refine Y.es (aD rfl) rfl (es1 (off:=0) rfl aEy (.t .z) (.t .g1) rfl rfl .g2 rfl .z) ?_
 refine Y.nil (Y.ac (Y.g (Y.seq (Y.region (Y.ql rfl (qW rfl bI (.t .g7) .z aW) ?_)))))
 refine Y.es (aD rfl) rfl (esW rfl (.t .g13) (.t .z) .g5 aW rfl rfl) ?_
 refine Y.nt (Y.ret ?_)
 refine Y.v (c:=aG (iT aP) aq [.slice bb aq.length bc]) (.c .g2 .n) jT ?_
 refine Y.v (c:=aG (iT cG) ab.data [.slice ag ab.data.length ae]) (.c .g5 .n) jT ?_
 refine Y.i (dD rfl .g13 bI .g2 aW) (.c .g1 (.c .z (.c .g2 .n))) ?_
 exact⟨⟨aq,ab.data⟩,_,_,u16,⟨by first | omega |(simp only [List.length_append,List.length_set,List.length_cons,List.length_nil,fY,List.length_take,List.length_drop];omega),by first | omega |(simp only [List.length_append,List.length_set,List.length_cons,List.length_nil,fY,List.length_take,List.length_drop];omega),by omega,by omega⟩,rfl,rfl⟩
 refine Y.seq (Y.region (Y.ql rfl (bZ rfl (.t .g2) .c) (Y.as rfl .z (Y.nt ?_))))
 refine Y.u (.t .z) (fun ck=> ?_) (fun ck=> ?_)
 refine Y.sel (.c .z (.c .g1 (.c .g1 (.c .z (.c .z .n))))) ?_
 refine Y.dr .g3 8 gG ?_
 refine Y.sc (qs 0 3++ [(4,true),(3,false),(5,false),(6,false),(7,true),(8,false)]) (by kernel_rfl) ?_
 refine Y.df rfl rfl .g3 .g6 gR (Y.dl rfl rfl .g3 lM .z .z (Y.dm rfl rfl .g3 .g14 (Y.dm rfl rfl .g3 .g15 ?_)))
 refine Y.call (aE rfl rfl) rfl (by decide) rfl (bS rfl Tryz.func42 rfl rfl (aX (.t .g1) .c)) (.c .z .n) (fun _ _ hs tr=>mG (tr.ctx hcd) _ hs (by omega) (by omega)) ?_
 rintro _ _ ⟨a9,h0m22,h1m22,rfl,rfl⟩
 refine Y.m (.c .n) ?_
 refine Y.sk .g3 ?_
 refine Y.call (aE rfl rfl) rfl (by decide) rfl (bS rfl Tryz.func42 rfl rfl (aX (.t .g1) .c)) (.c .z .n) (fun _ _ hs tr=>mG (tr.ctx hcd) _ hs (by omega) (by omega)) ?_
 rintro _ _ ⟨a1,h0m23,h1m23,rfl,rfl⟩
 refine Y.m (.c .n) ?_
 refine Y.sk .g3 ?_
 refine Y.eq .z (congrArg (Value.int .i64) (show a1=((Int.toNat a1:Nat):Int) by omega)) ?_
 refine Y.e (aE rfl rfl) rfl (by decide) rfl (nA (n:=Int.toNat a1) (x0:=(0:UInt8)) rfl gV kB rfl (fun _ _=>⟨rfl,trivial⟩) (.t .z) (.t .z) (by omega) (by omega)) ?_
 rintro _ _ rfl
 refine Y.h (WS.a .z) ?_
 rintro⟨cm,cn,rfl,bs,bt,bu⟩
 refine Y.sk .g4 ?_
 refine Y.h (WS.i .g3 (by omega)) ?_
 rintro⟨bd,rfl⟩
 refine Y.dk rfl rfl .g4 (aC (j:=Int.toNat a9) rfl mA mC (.t .g5) (.t .g2) (by omega) (by first | omega |(simp <;> omega))) ?_
 refine Y.es (aE rfl rfl) rfl (oH (j:=Int.toNat a9) rfl mC (.t .z) (.t .g1) rfl (.c .g3 (.c .z .n)) (by first | omega |(simp <;> omega))) ?_
 refine Y.sl rfl ?_
 refine Y.aa ?_
 refine Y.ag (by kernel_rfl) ?_
 refine Y.ac (Y.g (Y.seq (Y.region (Y.ql rfl (qW rfl bI (.t .g14) .g3 aW) ?_))))
 refine Y.es (aD rfl) rfl (esW rfl (.t (.s16 .g4)) (.t .z) .g4 aW rfl rfl) ?_
 refine Y.nt (Y.ret ?_)
 refine Y.v (c:=aG (iT aP) ab.inodes [.slice ap ab.inodes.length ad]) (.c .g3 .n) jT ?_
 refine Y.v (c:=aG (iT cG) (List.set ab.data (Int.toNat a9) (List.replicate (Int.toNat a1) (0:UInt8))) [.slice (some bd) ab.data.length ae]) (.c .g2 .n) jT ?_
 refine Y.i (dD rfl (.s16 .g4) bI .g2 aW) (.c .g1 (.c .z (.c .g1 .n))) ?_
 exact⟨⟨ab.inodes,List.set ab.data (Int.toNat a9) (List.replicate (Int.toNat a1) (0:UInt8))⟩,_,_,(((u4+1)+1)+1),⟨by first | omega |(simp only [List.length_append,List.length_set,List.length_cons,List.length_nil,fY,List.length_take,List.length_drop];omega),by first | omega |(simp only [List.length_append,List.length_set,List.length_cons,List.length_nil,fY,List.length_take,List.length_drop];omega),by omega,by omega⟩,rfl,rfl⟩
 refine Y.seq (Y.region (Y.ql rfl (bZ rfl (.t .g4) .c) (Y.as rfl .z (Y.nt ?_))))
 refine Y.u (.t .z) (fun co=> ?_) (fun co=> ?_)
 refine Y.region (Y.fa rfl .g8 gR (Y.ld rfl lM .z .g1 ?_))
 obtain⟨be,an⟩:∃A':Option Addr,A'=(if ae=1 then ag else Option.map (fun z=>Addr.add z (1 * 1)) ag):=⟨_,rfl⟩
 have cp:=fR (xs:=ab.data) (a:=1) (b:=ab.data.length) (by omega)
 have cq:True:=trivial
 refine Y.ql rfl (iN (a:=1) (b:=ab.data.length) rfl mA mC (.t .z) an (.inr ⟨_,_,rfl,.c⟩) (.inl ⟨rfl,rfl⟩) (by omega) (by omega) (by omega)) ?_
 refine Y.fa rfl .g11 gR ?_
 refine Y.es (aD rfl) rfl (es1 (off:=1) rfl aJx (.t .z) (.t .g1) rfl rfl .g1 rfl .g1) ?_
 refine Y.nil (Y.ac (Y.g (Y.seq (Y.region (Y.ql rfl (qW rfl bI (.t .g12) .z aW) ?_)))))
 refine Y.es (aD rfl) rfl (esW rfl (.t (.s16 .g2)) (.t .z) .g4 aW rfl rfl) ?_
 refine Y.nt (Y.ret ?_)
 refine Y.v (c:=aG (iT aP) ab.inodes [.slice ap ab.inodes.length ad]) (.c .g3 .n) jT ?_
 refine Y.v (c:=aG (iT cG) (fY ab.data 1 ab.data.length) [.slice be (fY ab.data 1 ab.data.length).length (ae - 1)]) (.c .g4 .n) (aAr an (by omega) (by omega)) ?_
 refine Y.i (dD rfl (.s16 .g2) bI .g2 aW) (.c .g1 (.c .z (.c .g2 .n))) ?_
 exact⟨⟨ab.inodes,fY ab.data 1 ab.data.length⟩,_,_,(u4+1),⟨by first | omega |(simp only [List.length_append,List.length_set,List.length_cons,List.length_nil,fY,List.length_take,List.length_drop];omega),by first | omega |(simp only [List.length_append,List.length_set,List.length_cons,List.length_nil,fY,List.length_take,List.length_drop];omega),by omega,by omega⟩,rfl,rfl⟩
 refine Y.seq (Y.region (Y.ql rfl (bZ rfl (.t .g6) .c) (Y.as rfl .z (Y.nt ?_))))
 refine Y.u (.t .z) (fun cr=> ?_) (fun cr=> ?_)
 refine Y.seq (Y.region (Y.mv rfl .g16 (Y.fa rfl .g11 aO (Y.ld rfl bK .z .g1 (Y.ql rfl (bM rfl cE (.t .z)) ?_)))))
 refine Y.cl rfl rfl Tryz.func42 rfl rfl (aX (.t .g3) (.t .z)) (.c .z .n) (fun _ _ hs tr=>mG (tr.ctx hcd) _ hs (by omega) (by omega)) ?_
 rintro _ _ ⟨ao,h0m35,h1m35,rfl,rfl⟩
 refine Y.m (.c .n) ?_
 refine Y.as rfl .z (Y.nt ?_)
 refine Y.sel (.c .z (.c .g1 (.c .g1 (.c .z (.c .z .n))))) ?_
 refine Y.dr .g3 6 gG ?_
 refine Y.sc (qs 0 4++ [(4,false),(5,true),(6,false)]) (by kernel_rfl) ?_
 refine Y.df rfl rfl .g3 .g16 aO (Y.dl rfl rfl .g3 bK .z .z (Y.dm rfl rfl .g3 .g2 (Y.dm rfl rfl .g3 (.s16 .g9) ?_)))
 refine Y.call (aE rfl rfl) rfl (by decide) rfl (bS rfl Tryz.func93 rfl rfl (bT (.t .z))) (.c .z .n) (fun _ _ hs tr=>aKh (tr.ctx hcd) hs (by omega)) ?_
 rintro _ _ ⟨aa,c1,c2,u37,bf,rfl,rfl⟩
 refine Y.m (.c (.c (.c .n))) ?_
 refine Y.h (WS.a .z) ?_
 rintro⟨ar,au,rfl,bv,bw,bx⟩
 refine Y.h (WS.a .g1) ?_
 rintro⟨av,aw,rfl,bz,b0,b1⟩
 refine Y.sk .g5 ?_
 refine Y.w (.c .g3 .n) eC ?_
 rintro a2 ai
 obtain⟨c3,ak⟩:=aI (xs:=ab.inodes) (j:=Int.toNat ao) (by first | omega |(simp <;> omega))
 obtain⟨c4,a3⟩:=aI (xs:=a2) (j:=Int.toNat ao) (by rw [ai];exact(List.getElem?_eq_some_iff.1 ak).1)
 refine Y.an .g1 (cW ak a3) ?_
 refine Y.w (.c .z .n) dR ?_
 rintro⟨c5,c6⟩ rfl
 refine Y.h (WS.a .z) ?_
 rintro⟨ct,cu,rfl,b2,b3,b4⟩
 refine Y.h (WS.a .g1) ?_
 rintro⟨cv,cw,rfl,b5,b6,b7⟩
 have h6y45:=(af.toJ0.get ak).e6
 refine Y.h (WS.i .g4 (by omega)) ?_
 rintro⟨a4,rfl⟩
 refine Y.dk rfl rfl .g9 (aC (j:=Int.toNat ao) rfl cE aU (.t .g3) (.t .g2) (by omega) (by first | omega |(simp <;> omega))) ?_
 refine Y.es (aE rfl rfl) rfl (gY (j:=Int.toNat ao) (off:=0) (cs:= [.int .i64 aa.kind,.int .i64 aa.links,.int .i64 aa.size,.slice ar aa.blocks.length au,.slice av aa.ents.length aw]) rfl aU (.t .z) rfl (.t .g1) rfl (lZ rfl) .g4 a3 (Nat.le_of_ble_eq_true rfl)) ?_
 refine Y.af (x':=List.set a2 (Int.toNat ao) [.int .i64 aa.kind,.int .i64 aa.links,.int .i64 aa.size,.slice ar aa.blocks.length au,.slice av aa.ents.length aw]) .z rfl ?_
 refine Y.sl rfl ?_
 refine Y.aa ?_
 refine Y.ag (by kernel_rfl) ?_
 refine Y.ac (Y.g (Y.seq (Y.region (Y.ql rfl (qW rfl bI (.t (.s16 .g6)) .g9 aW) ?_))))
 refine Y.es (aD rfl) rfl (esW rfl (.t (.s16 .g12)) (.t .z) .g10 aW rfl rfl) ?_
 refine Y.nt (Y.ret ?_)
 refine Y.v (c:=aG bD (⟨aa.kind,aa.links,aa.size,aa.blocks,aa.ents⟩:aF) [.int .i64 aa.kind,.int .i64 aa.links,.int .i64 aa.size,.slice ar aa.blocks.length au,.slice av aa.ents.length aw]) (.c .g6 (.c .g6 .n)) (fun w S h=>bF (⟨aa.kind,aa.links,aa.size,aa.blocks,aa.ents⟩:aF) h) ?_
 refine Y.v (c:=aG aP (List.set ab.inodes (Int.toNat ao) (⟨aa.kind,aa.links,aa.size,aa.blocks,aa.ents⟩:aF)) [.slice (some a4) ab.inodes.length ad]) (.c .g2 (.c .z (.c .g3 (.c .g3 .n)))) (dQ (K:=bD) ai (List.getElem?_eq_some_iff.1 ak).1 rfl) ?_
 refine Y.v (c:=aG (iT aP) (List.set ab.inodes (Int.toNat ao) (⟨aa.kind,aa.links,aa.size,aa.blocks,aa.ents⟩:aF)) [.slice (some a4) ab.inodes.length ad]) (.c .z .n) jT ?_
 refine Y.v (c:=aG (iT cG) ab.data [.slice ag ab.data.length ae]) (.c .g5 .n) jT ?_
 refine Y.i (dD rfl (.s16 .g12) bI .g2 aW) (.c .g1 (.c .z (.c .g3 .n))) ?_
 exact⟨⟨List.set ab.inodes (Int.toNat ao) (⟨aa.kind,aa.links,aa.size,aa.blocks,aa.ents⟩:aF),ab.data⟩,_,_,u37,⟨by first | omega |(simp only [List.length_append,List.length_set,List.length_cons,List.length_nil,fY,List.length_take,List.length_drop];omega),by first | omega |(simp only [List.length_append,List.length_set,List.length_cons,List.length_nil,fY,List.length_take,List.length_drop];omega),by omega,by omega⟩,rfl,rfl⟩
 refine Y.seq (Y.region (Y.ql rfl (bZ rfl (.t .g8) .c) (Y.as rfl .z (Y.nt ?_))))
 refine Y.u (.t .z) (fun cx=> ?_) (fun cx=> ?_)
 refine Y.w (.c .g2 .n) eC ?_
 rintro a5 aj
 obtain⟨ac,al⟩:=aI (xs:=ab.inodes) (j:=0) (by first | omega |(simp <;> omega))
 obtain⟨c7,ax⟩:=aI (xs:=a5) (j:=0) (by rw [aj];exact(List.getElem?_eq_some_iff.1 al).1)
 refine Y.an .g1 (cW al ax) ?_
 refine Y.w (.c .z .n) dR ?_
 rintro⟨c8,c9⟩ rfl
 refine Y.h (WS.a .z) ?_
 rintro⟨a6,a7,rfl,b8,b9,ca⟩
 refine Y.h (WS.a .g1) ?_
 rintro⟨cy,cz,rfl,cb,ce,cf⟩
 have h6y60:=(af.toJ0.get al).e6
 refine Y.sel (.c .z (.c .z (.c .g3 (.c .g4 (.c .z (.c .z (.c .z (.c .z (.c .z .n))))))))) ?_
 refine Y.dr .g4 14 gG ?_
 refine Y.sc (qs 0 8++ [(8,false),(9,true),(10,false),(11,false),(12,false),(13,true),(14,false)]) (by kernel_rfl) ?_
 refine Y.df rfl rfl .g4 .g12 aO (Y.dl rfl rfl .g4 bK .z .g3 (Y.df rfl rfl .g4 .g14 aO (Y.dl rfl rfl .g4 bK .z .g3 ?_)))
 refine Y.h (WS.i .g6 (by omega)) ?_
 rintro⟨a8,rfl⟩
 refine Y.dk rfl rfl .g4 (aC (j:=0) rfl cE aU (.t .z) .c rfl (by first | omega |(simp <;> omega))) ?_
 refine Y.df rfl rfl .g4 .z bE (Y.dk rfl rfl .g4 (aL rfl dP (.t .z) (WS.h .g2 ax rfl)) (Y.dm rfl rfl .g4 (.s16 .g9) ?_))
 refine Y.call (aE rfl rfl) rfl (by decide) rfl (bS rfl Tryz.func42 rfl rfl (aX (.t .z) .c)) (.c .g2 .n) (fun _ _ hs tr=>mG (tr.ctx hcd) _ hs (by omega) (by omega)) ?_
 rintro _ _ ⟨ah,h0m70,h1m70,rfl,rfl⟩
 refine Y.m (.c .n) ?_
 refine Y.sk .g4 ?_
 refine Y.dk rfl rfl .g4 (aZ (cs:= [.string (⟨#[122,122]⟩),.int .i64 ah]) rfl pI (pv2 .c (.t .z)) rfl) ?_
 refine Y.e (aE rfl rfl) rfl (by decide) rfl (aS (cs:= [.string (⟨#[122,122]⟩),.int .i64 ah]) rfl cZ (inz eF) (by decide) (pv1 (.t .z)) rfl rfl (by decide) rfl rfl) ?_
 rintro _ _ ⟨g71,rfl,rfl⟩
 refine Y.sk .g5 ?_
 refine Y.v (c:=aG gH (⟨⟨#[122,122]⟩,ah⟩:aQ) [.string (⟨#[122,122]⟩),.int .i64 ah]) .n (fun w S h=>fH (⟨⟨#[122,122]⟩,ah⟩:aQ) h (by first | assumption | omega | decide |(dsimp only;decide))) ?_
 refine Y.e (aE rfl rfl) rfl (by decide) rfl (dU rfl cZ eF rfl (.t .g4) (.t .z) (.c .g4 (.c .g1 (.c .z .n))) (by first | omega |(simp <;> omega)) (by first | omega |(simp <;> omega))) ?_
 rintro _ _ rfl
 refine Y.h (WS.a .z) ?_
 rintro⟨ay,az,rfl,cg,ch,ci⟩
 refine Y.sk .g4 ?_
 refine Y.q (aE rfl rfl) rfl (by decide) rfl (aC (j:=0) rfl cE aU (.t .g10) .c rfl (by first | omega |(simp <;> omega))) ?_
 refine Y.sk .g4 ?_
 refine Y.df rfl rfl .g4 .z bE ?_
 refine Y.es (aE rfl rfl) rfl (gY (j:=0) (off:=4) (cs:= [.slice ay (ac.ents++ [(⟨⟨#[122,122]⟩,ah⟩:aQ)]).length az]) rfl nC (.t .z) (gA _ _ _) (.t .g2) rfl (lZ rfl) .g6 ax (Nat.le_of_ble_eq_true rfl)) ?_
 refine Y.af (x':=List.set a5 0 [.int .i64 ac.kind,.int .i64 ac.links,.int .i64 ac.size,.slice a6 ac.blocks.length a7,.slice ay (ac.ents++ [(⟨⟨#[122,122]⟩,ah⟩:aQ)]).length az]) .z rfl ?_
 refine Y.sl rfl ?_
 refine Y.aa ?_
 refine Y.ag (by kernel_rfl) ?_
 refine Y.ac (Y.g (Y.seq (Y.region (Y.ql rfl (qW rfl bI (.t (.s16 .g10)) .g7 aW) ?_))))
 refine Y.es (aD rfl) rfl (esW rfl (.t (.s16 .g16)) (.t .z) .g8 aW rfl rfl) ?_
 refine Y.nt (Y.ret ?_)
 refine Y.v (c:=aG bD (⟨ac.kind,ac.links,ac.size,ac.blocks,ac.ents++ [(⟨⟨#[122,122]⟩,ah⟩:aQ)]⟩:aF) [.int .i64 ac.kind,.int .i64 ac.links,.int .i64 ac.size,.slice a6 ac.blocks.length a7,.slice ay (ac.ents++ [(⟨⟨#[122,122]⟩,ah⟩:aQ)]).length az]) (.c .g4 (.c .g2 .n)) (fun w S h=>bF (⟨ac.kind,ac.links,ac.size,ac.blocks,ac.ents++ [(⟨⟨#[122,122]⟩,ah⟩:aQ)]⟩:aF) h) ?_
 refine Y.v (c:=aG aP (List.set ab.inodes 0 (⟨ac.kind,ac.links,ac.size,ac.blocks,ac.ents++ [(⟨⟨#[122,122]⟩,ah⟩:aQ)]⟩:aF)) [.slice (some a8) ab.inodes.length ad]) (.c .g2 (.c .z (.c .g3 (.c .g3 .n)))) (dQ (K:=bD) aj (List.getElem?_eq_some_iff.1 al).1 rfl) ?_
 refine Y.v (c:=aG (iT aP) (List.set ab.inodes 0 (⟨ac.kind,ac.links,ac.size,ac.blocks,ac.ents++ [(⟨⟨#[122,122]⟩,ah⟩:aQ)]⟩:aF)) [.slice (some a8) ab.inodes.length ad]) (.c .z .n) jT ?_
 refine Y.v (c:=aG (iT cG) ab.data [.slice ag ab.data.length ae]) (.c .g3 .n) jT ?_
 refine Y.i (dD rfl (.s16 .g16) bI .g2 aW) (.c .g1 (.c .z (.c .g1 .n))) ?_
 exact⟨⟨List.set ab.inodes 0 (⟨ac.kind,ac.links,ac.size,ac.blocks,ac.ents++ [(⟨⟨#[122,122]⟩,ah⟩:aQ)]⟩:aF),ab.data⟩,_,_,((u4+1)+1),⟨by first | omega |(simp only [List.length_append,List.length_set,List.length_cons,List.length_nil,fY,List.length_take,List.length_drop];omega),by first | omega |(simp only [List.length_append,List.length_set,List.length_cons,List.length_nil,fY,List.length_take,List.length_drop];omega),by omega,by omega⟩,rfl,rfl⟩
 refine Y.skip (Y.ac (Y.g (Y.seq (Y.region (Y.ql rfl (qW rfl bI (.t .g12) .g1 aW) ?_)))))
 refine Y.es (aD rfl) rfl (esW rfl (.t (.s16 .g2)) (.t .z) .g4 aW rfl rfl) ?_
 refine Y.nt (Y.ret ?_)
 refine Y.v (c:=aG (iT aP) ab.inodes [.slice ap ab.inodes.length ad]) (.c .g3 .n) jT ?_
 refine Y.v (c:=aG (iT cG) ab.data [.slice ag ab.data.length ae]) (.c .g4 .n) jT ?_
 refine Y.i (dD rfl (.s16 .g2) bI .g2 aW) (.c .g1 (.c .z (.c .g1 .n))) ?_
 exact⟨⟨ab.inodes,ab.data⟩,_,_,(u4+1),⟨by first | omega |(simp only [List.length_append,List.length_set,List.length_cons,List.length_nil,fY,List.length_take,List.length_drop];omega),by first | omega |(simp only [List.length_append,List.length_set,List.length_cons,List.length_nil,fY,List.length_take,List.length_drop];omega),by omega,by omega⟩,rfl,rfl⟩

end Go.Proofs.YtmejbfmhaoilmaaGreat

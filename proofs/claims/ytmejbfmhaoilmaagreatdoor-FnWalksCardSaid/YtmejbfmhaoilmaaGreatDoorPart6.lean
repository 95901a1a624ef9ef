/- What is proved: contracts of functions, one a function. No condition. -/
import Derived.Test.YtmejbfmhaoilmaaGreatDoorBase1
import Derived.Test.YtmejbfmhaoilmaaGreatDoorW86
import Derived.Test.YtmejbfmhaoilmaaGreatDoorBase2
namespace Go.Proofs.YtmejbfmhaoilmaaGreatDoor
open Go Go.RowKit
set_option linter.unusedVariables false
set_option linter.unusedSimpArgs false
set_option maxHeartbeats 1000000
set_option maxRecDepth 20000
theorem aNw {w0:World}{S0:Bs}{g0 e0 s0:Nat}{am:List Value}{cd:List UInt8}{Ac:Option Addr}{cc:Nat} (hcd:dD.ro w0 (FF w0 S0) cd [.slice Ac cd.length cc]) {a:Int} (hs:cI [bV g0 e0 s0 1 ((.slice Ac cd.length cc) :: (.int .i64 a) :: am)] w0 S0) (ha:0≤a∧a≤800000):
    Calls Tryz.prog 14 #[.pointer (some ⟨g0,0,none⟩)] w0 (aI w0 S0 (fun r l=>∃(f:DFs) (v0_ v1_:Value) (u:Int),(f.inodes.length≤11∧f.data.length≤20∧a≤u∧u≤a+2000)∧r= .agg #[v0_,v1_]∧l= [aH (oR bJ) f.inodes [v0_],aH (oR eH) f.data [v1_],bV g0 e0 s0 1 (.slice Ac cd.length cc :: .int .i64 u :: am)])):=by
 obtain⟨hlc,hmc,hbc⟩:=nA hcd
 refine Y.enter (N:=62) Tryz.func14 rfl rfl (by simp) [(0,.pointer (some ⟨g0,0,none⟩))] (by simp) hs ?_
 refine Y.seq (Y.region ?_)
 refine Y.el rfl (bB rfl rG rfl rfl) ?_
 rintro _ _ ⟨g2,rfl,rfl⟩
 refine Y.nt (Y.seq (Y.region (Y.mv rfl .g1 (Y.mv rfl .g2 ?_))))
 refine Y.cl rfl rfl Tryz.func30 rfl rfl (aS (.t .z) .c) (.c .g1 .n) (fun _ _ hs tr=>mV (tr.ctx hcd) _ hs (by omega) (by omega)) ?_
 rintro _ _ ⟨m3,h0m3,h1m3,rfl,rfl⟩
 refine Y.m (.c .n) ?_
 refine Y.cl rfl rfl Tryz.func29 rfl rfl (aS (.t .g2) (.t .z)) (.c .z .n) (fun _ _ hs tr=>aN8 (tr.ctx hcd) _ hs (by omega) (by omega)) ?_
 rintro _ _ ⟨ab,v6,v8,u4,a0,rfl,rfl⟩
 refine Y.m (.c (.c (.c .n))) ?_
 refine Y.h (WS.a .z) ?_
 rintro⟨ap,ad,rfl,bg,bh,bi⟩
 refine Y.h (WS.a .g1) ?_
 rintro⟨ag,ae,rfl,bj,bk,bm⟩
 obtain⟨af,hu1fs5,hu2fs5⟩:=a0
 have bn:=af.d
 have bo:=af.n
 refine Y.el rfl (bB rfl rG rfl rfl) ?_
 rintro _ _ ⟨g12,rfl,rfl⟩
 refine Y.es (aE rfl) rfl (esW rfl (.t .z) (.t .g1) .z bA rfl rfl) ?_
 refine Y.nt (Y.seq (Y.seq (Y.region (Y.mv rfl .g6 ?_))))
 refine Y.cl rfl rfl Tryz.func30 rfl rfl (aS (.t .z) .c) (.c .g3 .n) (fun _ _ hs tr=>mV (tr.ctx hcd) _ hs (by omega) (by omega)) ?_
 rintro _ _ ⟨c0,h0m13,h1m13,rfl,rfl⟩
 refine Y.m (.c .n) ?_
 refine Y.nt (Y.block (Y.seq (Y.region (Y.ql rfl (bU rfl (.t .z) .c) (Y.as rfl .z (Y.nt ?_))))))
 refine Y.u (.t .z) (fun cj=> ?_) (fun cj=> ?_)
 refine Y.region (Y.mv rfl .g10 ?_)
 refine Y.cl rfl rfl Tryz.func31 rfl rfl (bG (.t .z)) (.c .z .n) (fun _ _ hs tr=>aN4 (tr.ctx hcd) hs (by omega)) ?_
 rintro _ _ ⟨aq,u16,ba,rfl⟩
 refine Y.m (.c (.c .n)) ?_
 refine Y.h (WS.a .z) ?_
 rintro⟨bb,bc,rfl,bp,bq,br⟩
 refine Y.fa rfl .g6 aP ?_
 refine Y.es (aE rfl) rfl (es1 (off:=0) rfl aG1 (.t .z) (.t .g1) rfl rfl .g2 rfl .z) ?_
 refine Y.nil (Y.ab (Y.g (Y.seq (Y.region (Y.ql rfl (qW rfl bX (.t .g7) .z bA) ?_)))))
 refine Y.es (aE rfl) rfl (esW rfl (.t .g13) (.t .z) .g5 bA rfl rfl) ?_
 refine Y.nt (Y.ret ?_)
 refine Y.ad (c:=aH (oR bJ) aq [.slice bb aq.length bc]) (.c .g2 .n) jS ?_
 refine Y.ad (c:=aH (oR eH) ab.data [.slice ag ab.data.length ae]) (.c .g5 .n) jS ?_
 refine Y.i (cU rfl .g13 bX .g2 bA) (.c .g1 (.c .z (.c .g2 .n))) ?_
 exact⟨⟨aq,ab.data⟩,_,_,u16,⟨by first | omega |(simp only [List.length_append,List.length_set,List.length_cons,List.length_nil,fY,List.length_take,List.length_drop];omega),by first | omega |(simp only [List.length_append,List.length_set,List.length_cons,List.length_nil,fY,List.length_take,List.length_drop];omega),by omega,by omega⟩,rfl,rfl⟩
 refine Y.seq (Y.region (Y.ql rfl (bU rfl (.t .g2) .c) (Y.as rfl .z (Y.nt ?_))))
 refine Y.u (.t .z) (fun ck=> ?_) (fun ck=> ?_)
 refine Y.sel (.c .z (.c .g1 (.c .g1 (.c .z (.c .z .n))))) ?_
 refine Y.dr .g3 8 fR ?_
 refine Y.sc (qs 0 3++ [(4,true),(3,false),(5,false),(6,false),(7,true),(8,false)]) (by kernel_rfl) ?_
 refine Y.df rfl rfl .g3 .g6 gQ (Y.dl rfl rfl .g3 mS .z .z (Y.dm rfl rfl .g3 .g14 (Y.dm rfl rfl .g3 .g15 ?_)))
 refine Y.call (aC rfl rfl) rfl (by decide) rfl (bE rfl Tryz.func30 rfl rfl (aS (.t .g1) .c)) (.c .z .n) (fun _ _ hs tr=>mV (tr.ctx hcd) _ hs (by omega) (by omega)) ?_
 rintro _ _ ⟨a9,h0m22,h1m22,rfl,rfl⟩
 refine Y.m (.c .n) ?_
 refine Y.sk .g3 ?_
 refine Y.call (aC rfl rfl) rfl (by decide) rfl (bE rfl Tryz.func30 rfl rfl (aS (.t .g1) .c)) (.c .z .n) (fun _ _ hs tr=>mV (tr.ctx hcd) _ hs (by omega) (by omega)) ?_
 rintro _ _ ⟨a1,h0m23,h1m23,rfl,rfl⟩
 refine Y.m (.c .n) ?_
 refine Y.sk .g3 ?_
 refine Y.eq .z (congrArg (Value.int .i64) (show a1=((Int.toNat a1:Nat):Int) by omega)) ?_
 refine Y.e (aC rfl rfl) rfl (by decide) rfl (lJ (n:=Int.toNat a1) (x0:=(0:UInt8)) rfl iJ mC rfl (fun _ _=>⟨rfl,trivial⟩) (.t .z) (.t .z) (by omega) (by omega)) ?_
 rintro _ _ rfl
 refine Y.h (WS.a .z) ?_
 rintro⟨cm,cn,rfl,bs,bt,bu⟩
 refine Y.sk .g4 ?_
 refine Y.h (WS.h .g3 (by omega)) ?_
 rintro⟨bd,rfl⟩
 refine Y.dk rfl rfl .g4 (aB (j:=Int.toNat a9) rfl pH nY (.t .g5) (.t .g2) (by omega) (by first | omega |(simp <;> omega))) ?_
 refine Y.es (aC rfl rfl) rfl (oV (j:=Int.toNat a9) rfl nY (.t .z) (.t .g1) rfl (.c .g3 (.c .z .n)) (by first | omega |(simp <;> omega))) ?_
 refine Y.sl rfl ?_
 refine Y.w ?_
 refine Y.af (by kernel_rfl) ?_
 refine Y.ab (Y.g (Y.seq (Y.region (Y.ql rfl (qW rfl bX (.t .g14) .g3 bA) ?_))))
 refine Y.es (aE rfl) rfl (esW rfl (.t (.s16 .g4)) (.t .z) .g4 bA rfl rfl) ?_
 refine Y.nt (Y.ret ?_)
 refine Y.ad (c:=aH (oR bJ) ab.inodes [.slice ap ab.inodes.length ad]) (.c .g3 .n) jS ?_
 refine Y.ad (c:=aH (oR eH) (List.set ab.data (Int.toNat a9) (List.replicate (Int.toNat a1) (0:UInt8))) [.slice (some bd) ab.data.length ae]) (.c .g2 .n) jS ?_
 refine Y.i (cU rfl (.s16 .g4) bX .g2 bA) (.c .g1 (.c .z (.c .g1 .n))) ?_
 exact⟨⟨ab.inodes,List.set ab.data (Int.toNat a9) (List.replicate (Int.toNat a1) (0:UInt8))⟩,_,_,(((u4+1)+1)+1),⟨by first | omega |(simp only [List.length_append,List.length_set,List.length_cons,List.length_nil,fY,List.length_take,List.length_drop];omega),by first | omega |(simp only [List.length_append,List.length_set,List.length_cons,List.length_nil,fY,List.length_take,List.length_drop];omega),by omega,by omega⟩,rfl,rfl⟩
 refine Y.seq (Y.region (Y.ql rfl (bU rfl (.t .g4) .c) (Y.as rfl .z (Y.nt ?_))))
 refine Y.u (.t .z) (fun co=> ?_) (fun co=> ?_)
 refine Y.region (Y.fa rfl .g8 gQ (Y.ld rfl mS .z .g1 ?_))
 obtain⟨be,an⟩:∃A':Option Addr,A'=(if ae=1 then ag else Option.map (fun z=>Addr.add z (1 * 1)) ag):=⟨_,rfl⟩
 have cp:=gH (xs:=ab.data) (a:=1) (b:=ab.data.length) (by omega)
 have cq:True:=trivial
 refine Y.ql rfl (jT (a:=1) (b:=ab.data.length) rfl pH nY (.t .z) an (.inr ⟨_,_,rfl,.c⟩) (.inl ⟨rfl,rfl⟩) (by omega) (by omega) (by omega)) ?_
 refine Y.fa rfl .g11 gQ ?_
 refine Y.es (aE rfl) rfl (es1 (off:=1) rfl aJ6 (.t .z) (.t .g1) rfl rfl .g1 rfl .g1) ?_
 refine Y.nil (Y.ab (Y.g (Y.seq (Y.region (Y.ql rfl (qW rfl bX (.t .g12) .z bA) ?_)))))
 refine Y.es (aE rfl) rfl (esW rfl (.t (.s16 .g2)) (.t .z) .g4 bA rfl rfl) ?_
 refine Y.nt (Y.ret ?_)
 refine Y.ad (c:=aH (oR bJ) ab.inodes [.slice ap ab.inodes.length ad]) (.c .g3 .n) jS ?_
 refine Y.ad (c:=aH (oR eH) (fY ab.data 1 ab.data.length) [.slice be (fY ab.data 1 ab.data.length).length (ae - 1)]) (.c .g4 .n) (aAh an (by omega) (by omega)) ?_
 refine Y.i (cU rfl (.s16 .g2) bX .g2 bA) (.c .g1 (.c .z (.c .g2 .n))) ?_
 exact⟨⟨ab.inodes,fY ab.data 1 ab.data.length⟩,_,_,(u4+1),⟨by first | omega |(simp only [List.length_append,List.length_set,List.length_cons,List.length_nil,fY,List.length_take,List.length_drop];omega),by first | omega |(simp only [List.length_append,List.length_set,List.length_cons,List.length_nil,fY,List.length_take,List.length_drop];omega),by omega,by omega⟩,rfl,rfl⟩
 refine Y.seq (Y.region (Y.ql rfl (bU rfl (.t .g6) .c) (Y.as rfl .z (Y.nt ?_))))
 refine Y.u (.t .z) (fun cr=> ?_) (fun cr=> ?_)
 refine Y.seq (Y.region (Y.mv rfl .g16 (Y.fa rfl .g11 aP (Y.ld rfl bR .z .g1 (Y.ql rfl (bD rfl cQ (.t .z)) ?_)))))
 refine Y.cl rfl rfl Tryz.func30 rfl rfl (aS (.t .g3) (.t .z)) (.c .z .n) (fun _ _ hs tr=>mV (tr.ctx hcd) _ hs (by omega) (by omega)) ?_
 rintro _ _ ⟨ao,h0m35,h1m35,rfl,rfl⟩
 refine Y.m (.c .n) ?_
 refine Y.as rfl .z (Y.nt ?_)
 refine Y.sel (.c .z (.c .g1 (.c .g1 (.c .z (.c .z .n))))) ?_
 refine Y.dr .g3 6 fR ?_
 refine Y.sc (qs 0 4++ [(4,false),(5,true),(6,false)]) (by kernel_rfl) ?_
 refine Y.df rfl rfl .g3 .g16 aP (Y.dl rfl rfl .g3 bR .z .z (Y.dm rfl rfl .g3 .g2 (Y.dm rfl rfl .g3 (.s16 .g9) ?_)))
 refine Y.call (aC rfl rfl) rfl (by decide) rfl (bE rfl Tryz.func32 rfl rfl (bG (.t .z))) (.c .z .n) (fun _ _ hs tr=>aLf (tr.ctx hcd) hs (by omega)) ?_
 rintro _ _ ⟨aa,c1,c2,u37,bf,rfl,rfl⟩
 refine Y.m (.c (.c (.c .n))) ?_
 refine Y.h (WS.a .z) ?_
 rintro⟨ar,au,rfl,bv,bw,bx⟩
 refine Y.h (WS.a .g1) ?_
 rintro⟨av,aw,rfl,bz,b0,b1⟩
 refine Y.sk .g5 ?_
 refine Y.aa (.c .g3 .n) fP ?_
 rintro a2 ai
 obtain⟨c3,ak⟩:=aK (xs:=ab.inodes) (j:=Int.toNat ao) (by first | omega |(simp <;> omega))
 obtain⟨c4,a3⟩:=aK (xs:=a2) (j:=Int.toNat ao) (by rw [ai];exact(List.getElem?_eq_some_iff.1 ak).1)
 refine Y.au .g1 (eJ ak a3) ?_
 refine Y.aa (.c .z .n) fC ?_
 rintro⟨c5,c6⟩ rfl
 refine Y.h (WS.a .z) ?_
 rintro⟨ct,cu,rfl,b2,b3,b4⟩
 refine Y.h (WS.a .g1) ?_
 rintro⟨cv,cw,rfl,b5,b6,b7⟩
 have h6y45:=(af.toJ0.get ak).e6
 refine Y.h (WS.h .g4 (by omega)) ?_
 rintro⟨a4,rfl⟩
 refine Y.dk rfl rfl .g9 (aB (j:=Int.toNat ao) rfl cQ aT (.t .g3) (.t .g2) (by omega) (by first | omega |(simp <;> omega))) ?_
 refine Y.es (aC rfl rfl) rfl (kU (j:=Int.toNat ao) (off:=0) (cs:= [.int .i64 aa.kind,.int .i64 aa.links,.int .i64 aa.size,.slice ar aa.blocks.length au,.slice av aa.ents.length aw]) rfl aT (.t .z) rfl (.t .g1) rfl (pX rfl) .g4 a3 (Nat.le_of_ble_eq_true rfl)) ?_
 refine Y.ah (x':=List.set a2 (Int.toNat ao) [.int .i64 aa.kind,.int .i64 aa.links,.int .i64 aa.size,.slice ar aa.blocks.length au,.slice av aa.ents.length aw]) .z rfl ?_
 refine Y.sl rfl ?_
 refine Y.w ?_
 refine Y.af (by kernel_rfl) ?_
 refine Y.ab (Y.g (Y.seq (Y.region (Y.ql rfl (qW rfl bX (.t (.s16 .g6)) .g9 bA) ?_))))
 refine Y.es (aE rfl) rfl (esW rfl (.t (.s16 .g12)) (.t .z) .g10 bA rfl rfl) ?_
 refine Y.nt (Y.ret ?_)
 refine Y.ad (c:=aH cR (⟨aa.kind,aa.links,aa.size,aa.blocks,aa.ents⟩:aF) [.int .i64 aa.kind,.int .i64 aa.links,.int .i64 aa.size,.slice ar aa.blocks.length au,.slice av aa.ents.length aw]) (.c .g6 (.c .g6 .n)) (fun w S h=>cZ (⟨aa.kind,aa.links,aa.size,aa.blocks,aa.ents⟩:aF) h) ?_
 refine Y.ad (c:=aH bJ (List.set ab.inodes (Int.toNat ao) (⟨aa.kind,aa.links,aa.size,aa.blocks,aa.ents⟩:aF)) [.slice (some a4) ab.inodes.length ad]) (.c .g2 (.c .z (.c .g3 (.c .g3 .n)))) (eU (K:=cR) ai (List.getElem?_eq_some_iff.1 ak).1 rfl) ?_
 refine Y.ad (c:=aH (oR bJ) (List.set ab.inodes (Int.toNat ao) (⟨aa.kind,aa.links,aa.size,aa.blocks,aa.ents⟩:aF)) [.slice (some a4) ab.inodes.length ad]) (.c .z .n) jS ?_
 refine Y.ad (c:=aH (oR eH) ab.data [.slice ag ab.data.length ae]) (.c .g5 .n) jS ?_
 refine Y.i (cU rfl (.s16 .g12) bX .g2 bA) (.c .g1 (.c .z (.c .g3 .n))) ?_
 exact⟨⟨List.set ab.inodes (Int.toNat ao) (⟨aa.kind,aa.links,aa.size,aa.blocks,aa.ents⟩:aF),ab.data⟩,_,_,u37,⟨by first | omega |(simp only [List.length_append,List.length_set,List.length_cons,List.length_nil,fY,List.length_take,List.length_drop];omega),by first | omega |(simp only [List.length_append,List.length_set,List.length_cons,List.length_nil,fY,List.length_take,List.length_drop];omega),by omega,by omega⟩,rfl,rfl⟩
 refine Y.seq (Y.region (Y.ql rfl (bU rfl (.t .g8) .c) (Y.as rfl .z (Y.nt ?_))))
 refine Y.u (.t .z) (fun cx=> ?_) (fun cx=> ?_)
 refine Y.aa (.c .g2 .n) fP ?_
 rintro a5 aj
 obtain⟨ac,al⟩:=aK (xs:=ab.inodes) (j:=0) (by first | omega |(simp <;> omega))
 obtain⟨c7,ax⟩:=aK (xs:=a5) (j:=0) (by rw [aj];exact(List.getElem?_eq_some_iff.1 al).1)
 refine Y.au .g1 (eJ al ax) ?_
 refine Y.aa (.c .z .n) fC ?_
 rintro⟨c8,c9⟩ rfl
 refine Y.h (WS.a .z) ?_
 rintro⟨a6,a7,rfl,b8,b9,ca⟩
 refine Y.h (WS.a .g1) ?_
 rintro⟨cy,cz,rfl,cb,ce,cf⟩
 have h6y60:=(af.toJ0.get al).e6
 refine Y.sel (.c .z (.c .z (.c .g3 (.c .g4 (.c .z (.c .z (.c .z (.c .z (.c .z .n))))))))) ?_
 refine Y.dr .g4 14 fR ?_
 refine Y.sc (qs 0 8++ [(8,false),(9,true),(10,false),(11,false),(12,false),(13,true),(14,false)]) (by kernel_rfl) ?_
 refine Y.df rfl rfl .g4 .g12 aP (Y.dl rfl rfl .g4 bR .z .g3 (Y.df rfl rfl .g4 .g14 aP (Y.dl rfl rfl .g4 bR .z .g3 ?_)))
 refine Y.h (WS.h .g6 (by omega)) ?_
 rintro⟨a8,rfl⟩
 refine Y.dk rfl rfl .g4 (aB (j:=0) rfl cQ aT (.t .z) .c rfl (by first | omega |(simp <;> omega))) ?_
 refine Y.df rfl rfl .g4 .z bL (Y.dk rfl rfl .g4 (aM rfl dX (.t .z) (WS.j .g2 ax rfl)) (Y.dm rfl rfl .g4 (.s16 .g9) ?_))
 refine Y.call (aC rfl rfl) rfl (by decide) rfl (bE rfl Tryz.func30 rfl rfl (aS (.t .z) .c)) (.c .g2 .n) (fun _ _ hs tr=>mV (tr.ctx hcd) _ hs (by omega) (by omega)) ?_
 rintro _ _ ⟨ah,h0m70,h1m70,rfl,rfl⟩
 refine Y.m (.c .n) ?_
 refine Y.sk .g4 ?_
 refine Y.dk rfl rfl .g4 (aW (cs:= [.string (⟨#[122,122]⟩),.int .i64 ah]) rfl uJ (pv2 .c (.t .z)) rfl) ?_
 refine Y.e (aC rfl rfl) rfl (by decide) rfl (aQ (cs:= [.string (⟨#[122,122]⟩),.int .i64 ah]) rfl dP (inz eI) (by decide) (pv1 (.t .z)) rfl rfl (by decide) rfl rfl) ?_
 rintro _ _ ⟨g71,rfl,rfl⟩
 refine Y.sk .g5 ?_
 refine Y.ad (c:=aH kC (⟨⟨#[122,122]⟩,ah⟩:bO) [.string (⟨#[122,122]⟩),.int .i64 ah]) .n (fun w S h=>iO (⟨⟨#[122,122]⟩,ah⟩:bO) h (by first | assumption | omega | decide |(dsimp only;decide))) ?_
 refine Y.e (aC rfl rfl) rfl (by decide) rfl (dK rfl dP eI rfl (.t .g4) (.t .z) (.c .g4 (.c .g1 (.c .z .n))) (by first | omega |(simp <;> omega)) (by first | omega |(simp <;> omega))) ?_
 rintro _ _ rfl
 refine Y.h (WS.a .z) ?_
 rintro⟨ay,az,rfl,cg,ch,ci⟩
 refine Y.sk .g4 ?_
 refine Y.q (aC rfl rfl) rfl (by decide) rfl (aB (j:=0) rfl cQ aT (.t .g10) .c rfl (by first | omega |(simp <;> omega))) ?_
 refine Y.sk .g4 ?_
 refine Y.df rfl rfl .g4 .z bL ?_
 refine Y.es (aC rfl rfl) rfl (kU (j:=0) (off:=4) (cs:= [.slice ay (ac.ents++ [(⟨⟨#[122,122]⟩,ah⟩:bO)]).length az]) rfl qO (.t .z) (jA _ _ _) (.t .g2) rfl (pX rfl) .g6 ax (Nat.le_of_ble_eq_true rfl)) ?_
 refine Y.ah (x':=List.set a5 0 [.int .i64 ac.kind,.int .i64 ac.links,.int .i64 ac.size,.slice a6 ac.blocks.length a7,.slice ay (ac.ents++ [(⟨⟨#[122,122]⟩,ah⟩:bO)]).length az]) .z rfl ?_
 refine Y.sl rfl ?_
 refine Y.w ?_
 refine Y.af (by kernel_rfl) ?_
 refine Y.ab (Y.g (Y.seq (Y.region (Y.ql rfl (qW rfl bX (.t (.s16 .g10)) .g7 bA) ?_))))
 refine Y.es (aE rfl) rfl (esW rfl (.t (.s16 .g16)) (.t .z) .g8 bA rfl rfl) ?_
 refine Y.nt (Y.ret ?_)
 refine Y.ad (c:=aH cR (⟨ac.kind,ac.links,ac.size,ac.blocks,ac.ents++ [(⟨⟨#[122,122]⟩,ah⟩:bO)]⟩:aF) [.int .i64 ac.kind,.int .i64 ac.links,.int .i64 ac.size,.slice a6 ac.blocks.length a7,.slice ay (ac.ents++ [(⟨⟨#[122,122]⟩,ah⟩:bO)]).length az]) (.c .g4 (.c .g2 .n)) (fun w S h=>cZ (⟨ac.kind,ac.links,ac.size,ac.blocks,ac.ents++ [(⟨⟨#[122,122]⟩,ah⟩:bO)]⟩:aF) h) ?_
 refine Y.ad (c:=aH bJ (List.set ab.inodes 0 (⟨ac.kind,ac.links,ac.size,ac.blocks,ac.ents++ [(⟨⟨#[122,122]⟩,ah⟩:bO)]⟩:aF)) [.slice (some a8) ab.inodes.length ad]) (.c .g2 (.c .z (.c .g3 (.c .g3 .n)))) (eU (K:=cR) aj (List.getElem?_eq_some_iff.1 al).1 rfl) ?_
 refine Y.ad (c:=aH (oR bJ) (List.set ab.inodes 0 (⟨ac.kind,ac.links,ac.size,ac.blocks,ac.ents++ [(⟨⟨#[122,122]⟩,ah⟩:bO)]⟩:aF)) [.slice (some a8) ab.inodes.length ad]) (.c .z .n) jS ?_
 refine Y.ad (c:=aH (oR eH) ab.data [.slice ag ab.data.length ae]) (.c .g3 .n) jS ?_
 refine Y.i (cU rfl (.s16 .g16) bX .g2 bA) (.c .g1 (.c .z (.c .g1 .n))) ?_
 exact⟨⟨List.set ab.inodes 0 (⟨ac.kind,ac.links,ac.size,ac.blocks,ac.ents++ [(⟨⟨#[122,122]⟩,ah⟩:bO)]⟩:aF),ab.data⟩,_,_,((u4+1)+1),⟨by first | omega |(simp only [List.length_append,List.length_set,List.length_cons,List.length_nil,fY,List.length_take,List.length_drop];omega),by first | omega |(simp only [List.length_append,List.length_set,List.length_cons,List.length_nil,fY,List.length_take,List.length_drop];omega),by omega,by omega⟩,rfl,rfl⟩
 refine Y.skip (Y.ab (Y.g (Y.seq (Y.region (Y.ql rfl (qW rfl bX (.t .g12) .g1 bA) ?_)))))
 refine Y.es (aE rfl) rfl (esW rfl (.t (.s16 .g2)) (.t .z) .g4 bA rfl rfl) ?_
 refine Y.nt (Y.ret ?_)
 refine Y.ad (c:=aH (oR bJ) ab.inodes [.slice ap ab.inodes.length ad]) (.c .g3 .n) jS ?_
 refine Y.ad (c:=aH (oR eH) ab.data [.slice ag ab.data.length ae]) (.c .g4 .n) jS ?_
 refine Y.i (cU rfl (.s16 .g2) bX .g2 bA) (.c .g1 (.c .z (.c .g1 .n))) ?_
 exact⟨⟨ab.inodes,ab.data⟩,_,_,(u4+1),⟨by first | omega |(simp only [List.length_append,List.length_set,List.length_cons,List.length_nil,fY,List.length_take,List.length_drop];omega),by first | omega |(simp only [List.length_append,List.length_set,List.length_cons,List.length_nil,fY,List.length_take,List.length_drop];omega),by omega,by omega⟩,rfl,rfl⟩

end Go.Proofs.YtmejbfmhaoilmaaGreatDoor
/- What is proved: contracts of functions, one a function. No condition. -/
namespace Go.Proofs.YtmejbfmhaoilmaaGreatDoor
open Go Go.RowKit
set_option linter.unusedVariables false
set_option linter.unusedSimpArgs false
set_option maxHeartbeats 1000000
set_option maxRecDepth 20000
theorem c_5 {w0:World}{S0:Bs}{cd:(List UInt8)}{v0:Value} (h0:dD.ro w0 (FF w0 S0) cd [v0]) (hcl:cd.length≤1048576):
    Calls Tryz.prog 5 #[v0] w0 (aI w0 S0 (fun r l=>∃(f:DFs) (v0_ v1_:Value),(f.inodes.length≤11∧f.data.length≤20)∧r= .agg #[v0_,v1_]∧l= [aH (oR bJ) f.inodes [v0_],aH (oR eH) f.data [v1_]])):=by
 obtain⟨A0,c0,rfl,am,an,ao,ap⟩:=aD h0
 refine Y.enter (N:=6) Tryz.func5 rfl rfl (by simp) [(0,.slice A0 cd.length c0)] (by simp) (l0:= []) trivial ?_
 refine Y.seq (Y.region ?_)
 refine Y.el rfl (bB rfl rG rfl rfl) ?_
 rintro _ _ ⟨g2,rfl,rfl⟩
 refine Y.nt (Y.seq (Y.region (Y.mv rfl .g1 ?_)))
 refine Y.cl rfl rfl Tryz.func15 rfl rfl (bG (.t .z)) .n (fun _ _ hs tr=>aOy (tr.ctx h0)) ?_
 rintro _ _ ⟨g3,rfl,rfl⟩
 refine Y.m (.c .n) ?_
 refine Y.cl rfl rfl Tryz.func14 rfl rfl (bG (.t .z)) (.c .z .n) (fun _ _ hs tr=>aNw (tr.ctx h0) hs (by omega)) ?_
 rintro _ _ ⟨ah,v6,v8,u4,aa,rfl,rfl⟩
 refine Y.m (.c (.c (.c .n))) ?_
 refine Y.h (WS.v .z) ?_
 rintro⟨ai,aj,rfl,ab,ac,ad⟩
 refine Y.h (WS.v .g1) ?_
 rintro⟨ak,al,rfl,ae,af,ag⟩
 refine Y.es (aE rfl) rfl (esW rfl (.t .g3) (.t .z) .g3 bA rfl rfl) ?_
 refine Y.nt (Y.ret ?_)
 refine Y.i (cU rfl .g3 bX .z bA) (.c .g1 (.c .g1 .n)) ?_
 exact⟨ah,_,_,⟨by first | assumption | omega | decide |(simp <;> omega),by first | assumption | omega | decide |(simp <;> omega)⟩,rfl,rfl⟩

end Go.Proofs.YtmejbfmhaoilmaaGreatDoor

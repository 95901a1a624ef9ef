/- What is proved: contracts of functions, one a function. No condition. -/
import Derived.Test.YtmejbfmhaoilmaaGreatDoorBase1
import Derived.Test.YtmejbfmhaoilmaaGreatDoorW51
import Derived.Test.YtmejbfmhaoilmaaGreatDoorW10
import Derived.Test.YtmejbfmhaoilmaaGreatDoorW3
import Derived.Test.YtmejbfmhaoilmaaGreatDoorBase2
namespace Go.Proofs.YtmejbfmhaoilmaaGreatDoor
open Go Go.RowKit
set_option linter.unusedVariables false
set_option linter.unusedSimpArgs false
set_option maxHeartbeats 1000000
set_option maxRecDepth 20000
theorem aN4 {w0:World}{S0:Bs}{g0 e0 s0:Nat}{ae:List Value}{cd:List UInt8}{Ac:Option Addr}{cc:Nat} (hcd:dD.ro w0 (FF w0 S0) cd [.slice Ac cd.length cc]) {a:Int} (hs:cI [bV g0 e0 s0 1 ((.slice Ac cd.length cc) :: (.int .i64 a) :: ae)] w0 S0) (ha:0≤a∧a≤900000):
    Calls Tryz.prog 31 #[.pointer (some ⟨g0,0,none⟩)] w0 (aI w0 S0 (fun r l=>∃(x:List aF) (u:Int),(x.length≤11∧a≤u∧u≤a+600)∧l= [aH bJ x [r],bV g0 e0 s0 1 (.slice Ac cd.length cc :: .int .i64 u :: ae)])):=by
 obtain⟨hlc,hmc,hbc⟩:=nA hcd
 refine Y.enter (N:=76) Tryz.func31 rfl rfl (by simp) [(0,.pointer (some ⟨g0,0,none⟩))] (by simp) hs ?_
 refine Y.seq (Y.region (Y.ql rfl (aA rfl .c) (Y.nt (Y.seq (Y.region ?_)))))
 refine Y.el rfl (eA rfl cQ (inz mN)) ?_
 rintro _ _ ⟨g2,rfl,rfl⟩
 refine Y.as rfl .z (Y.nt (Y.seq (Y.seq (Y.region (Y.mv rfl .g3 ?_)))))
 refine Y.cl rfl rfl Tryz.func30 rfl rfl (aS (.t .z) .c) (.c .g1 .n) (fun _ _ hs tr=>mV (tr.ctx hcd) _ hs (by omega) (by omega)) ?_
 rintro _ _ ⟨m3,h0m3,h1m3,rfl,rfl⟩
 refine Y.m (.c .n) ?_
 refine Y.as rfl .z (Y.nt (Y.block ?_))
 refine Y.add (c:=aH bJ ([]:(List aF)) [.slice (some ⟨g2,0,none⟩) 0 0]) (fun w S=>aL w S _) ?_
 refine Y.ai (γ:=(Option Addr)×Nat×Int×Int×(List aF)) (fun⟨ac,ad,n,z,O⟩=> [(4,.int .i64 n),(3,.slice ac O.length ad),(2,.slice none 0 0),(0,.pointer (some ⟨g0,0,none⟩))]) (fun⟨ac,ad,n,z,O⟩=> [aH bJ O [.slice ac O.length ad],bV g0 e0 s0 1 ((.slice Ac cd.length cc) :: (.int .i64 z) :: ae),bV g2 46 5 0 []]) (fun⟨ac,ad,n,z,O⟩=>(0≤n∧n≤7)∧(a≤z∧z+60 * n≤a+421)∧aZ O=0∧(O.length:Int)+n≤7) (fun⟨ac,ad,n,z,O⟩=>n.toNat) ((some ⟨g2,0,none⟩),0,m3,(a+1),[]) ⟨by omega,by omega,by decide,by simp only [List.length_nil];omega⟩ (.c .z (.c .g3 (.c .g5 (.c .g6 .n)))) (fun _ h=>h.sel (.c .z (.c .z (.c .z .n)))) ?_
 rintro⟨ac,ad,n,z,O⟩ ⟨hn,hz,hO,hOl⟩
 refine Y.seq (Y.seq (Y.region (Y.mv rfl .z (Y.ql rfl (fI rfl (.t .z) .c) (Y.nt ?_)))))
 refine Y.u (.t .z) (fun b5=> ?_) (fun b5=> ?_)
 refine Y.skip (Y.g (Y.seq (Y.block (Y.seq (Y.region (Y.mv rfl .g5 ?_))))))
 refine Y.cl rfl rfl Tryz.func32 rfl rfl (bG (.t .z)) (.c .g1 .n) (fun _ _ hs tr=>aLf (tr.ctx hcd) hs (by omega)) ?_
 rintro _ _ ⟨aa,v8,b2,u7,aj,rfl,rfl⟩
 refine Y.m (.c (.c (.c .n))) ?_
 refine Y.h (WS.a .z) ?_
 rintro⟨af,ag,rfl,az,a0,a1⟩
 refine Y.h (WS.a .g1) ?_
 rintro⟨ah,ai,rfl,a2,a3,a4⟩
 refine Y.el rfl (bB rfl sX rfl rfl) ?_
 rintro _ _ ⟨g14,rfl,rfl⟩
 refine Y.es (aE rfl) rfl (esW rfl (.t .z) (.t .g1) .z aT rfl rfl) ?_
 refine Y.nt (Y.seq (Y.seq (Y.region (Y.ql rfl (aA rfl .c) (Y.nt (Y.block ?_))))))
 refine Y.ai (γ:=Nat×Int×(List Int)) (fun⟨i,y,B⟩=> [(6,.int .i64 (i:Int)),(5,.pointer (some ⟨g14,0,none⟩)),(4,.int .i64 n),(3,.slice ac O.length ad),(2,.slice none 0 0),(0,.pointer (some ⟨g0,0,none⟩))]) (fun⟨i,y,B⟩=> [bV g14 46 5 1 [.int .i64 aa.kind,.int .i64 aa.links,.int .i64 aa.size,.slice af aa.blocks.length ag,.slice ah aa.ents.length ai],aH bK B [.slice af aa.blocks.length ag],aH dU aa.ents [.slice ah aa.ents.length ai],bV g0 e0 s0 1 ((.slice Ac cd.length cc) :: (.int .i64 y) :: ae),aH bJ O [.slice ac O.length ad],bV g2 46 5 0 []]) (fun⟨i,y,B⟩=>i≤aa.blocks.length∧(z≤y∧y≤z+40+i)∧B.length=aa.blocks.length∧∀b,b∈B→0≤b∧b≤19) (fun⟨i,y,B⟩=>aa.blocks.length - i) (0,u7,aa.blocks) ⟨Nat.zero_le _,by omega,rfl,aj.2.2.2.1⟩ (.c .z (.c .g1 (.c .g6 (.c .g7 (.c .g8 (.c .g9 .n)))))) (fun _ h=>h.sel (.c .z (.c .z (.c .z (.c .z (.c .z (.c .z .n))))))) ?_
 rintro⟨i,y,B⟩ ⟨hi,hy,hBl,hBn⟩
 refine Y.seq (Y.seq (Y.region (Y.mv rfl .z (Y.fa rfl .g2 dH (Y.ld rfl eZ .z .z (Y.ql rfl (bD rfl eF (.t .z)) (Y.ql rfl (dA rfl (.t .g3) (.t .z)) (Y.mv rfl .z ?_))))))))
 refine Y.al .z (fun g15=> ?_) (fun g15=> ?_)
 refine Y.qg rfl rfl .z rfl rfl rfl (aR rfl (.t .g11)) ?_
 refine Y.call (eB rfl rfl .g1) rfl (by decide) rfl (bE rfl Tryz.func55 rfl rfl (aS (.t .z) .c)) (.c .g3 .n) (fun _ _ hs tr=>aK2 (tr.ctx hcd) _ hs (by omega) (by omega)) ?_
 rintro _ _ ⟨b3,rfl,rfl⟩
 refine Y.m (.c .n) ?_
 refine Y.qg rfl rfl .g2 rfl rfl rfl (fF rfl (.t .z)) ?_
 refine Y.ql rfl (bI rfl (.t .g3) (.t .z)) (Y.nt ?_)
 refine Y.cond (.t .z) (fun bq=> ?_) (fun bq=> ?_)
 refine Y.skip (Y.g (Y.seq (Y.block (Y.seq (Y.region (Y.ql rfl (aA rfl .c) (Y.nt ?_)))))))
 refine Y.block ?_
 refine Y.ai (γ:=Nat×(List Int)) (fun⟨k,C⟩=> [(7,.int .i64 (k:Int)),(6,.int .i64 (i:Int)),(5,.pointer (some ⟨g14,0,none⟩)),(4,.int .i64 n),(3,.slice ac O.length ad),(2,.slice none 0 0),(0,.pointer (some ⟨g0,0,none⟩))]) (fun⟨k,C⟩=> [bV g0 e0 s0 1 ((.slice Ac cd.length cc) :: (.int .i64 (y+1)) :: ae),bV g14 46 5 1 [.int .i64 aa.kind,.int .i64 aa.links,.int .i64 aa.size,.slice af aa.blocks.length ag,.slice ah aa.ents.length ai],aH bK C [.slice af aa.blocks.length ag],aH dU aa.ents [.slice ah aa.ents.length ai],aH bJ O [.slice ac O.length ad],bV g2 46 5 0 []]) (fun⟨k,C⟩=>k≤20∧C.length=aa.blocks.length∧∀b,b∈C→0≤b∧b≤19) (fun⟨k,C⟩=>20 - k) (0,B) ⟨Nat.zero_le _,hBl,hBn⟩ (.c .z (.c .g11 (.c .g12 (.c .g13 (.c .g14 (.c .g15 (.c .g16 .n))))))) (fun _ h=>h.sel (.c .z (.c .z (.c .z (.c .z (.c .z (.c .z .n))))))) ?_
 rintro⟨k,C⟩ ⟨hk,hCl,hCn⟩
 refine Y.seq (Y.seq (Y.region (Y.mv rfl .z (Y.ql rfl (dA rfl (.t .z) .c) (Y.mv rfl .z ?_)))))
 refine Y.al .z (fun g18=> ?_) (fun g18=> ?_)
 refine Y.qg rfl rfl .z rfl rfl rfl (aR rfl (.t .g7)) ?_
 refine Y.qg rfl rfl .g1 rfl rfl rfl (aN rfl (.t .g6) (fun _=>dH _ _)) ?_
 refine Y.qg rfl rfl .g2 rfl rfl rfl (aM rfl eZ (.t .z) (WS.g .g1 rfl)) ?_
 refine Y.qg rfl rfl .g3 rfl rfl rfl (aR rfl (.t .g7)) ?_
 refine Y.h (WS.h .g2 (by omega)) ?_
 rintro⟨br,rfl⟩
 refine Y.qg rfl rfl .g4 rfl rfl rfl (aB (j:=i) rfl eF jO (.t .g1) (.t .z) rfl (by omega)) ?_
 obtain⟨b4,ak⟩:=aK (xs:=C) (j:=i) (by omega)
 have a5:=hCn _ (List.mem_of_getElem? ak)
 refine Y.qg rfl rfl .g5 rfl rfl rfl (aM rfl bP (.t .z) (WS.m .g2 ak)) ?_
 refine Y.call (eB rfl rfl .g6) rfl (by decide) rfl (bE rfl Tryz.func56 rfl rfl (aS (.t .g5) (.t .z))) .n (fun _ _ hs tr=>aLl (tr.own .g4) _ (by assumption)) ?_
 rintro _ _ ⟨rfl,rfl⟩
 refine Y.m .n ?_
 refine Y.qg rfl rfl .g7 rfl rfl rfl (fI rfl (.t .z) .c) ?_
 refine Y.ql rfl (bI rfl (.t .g8) (.t .z)) (Y.nt ?_)
 refine Y.u (.t .z) (fun bs=> ?_) (fun bs=> ?_)
 refine Y.skip (Y.g (Y.seq (Y.block ?_)))
 refine Y.dr .g1 11 fR ?_
 refine Y.sc (qs 0 11++ [(11,false)]) (by kernel_rfl) ?_
 refine Y.df rfl rfl .g1 .g14 dH (Y.dl rfl rfl .g1 eZ .z .z (Y.dm rfl rfl .g1 .g15 (Y.df rfl rfl .g1 (.s16 .g1) dH (Y.dl rfl rfl .g1 eZ .z .z (Y.dm rfl rfl .g1 (.s16 .g2) ?_)))))
 refine Y.dk rfl rfl .g1 (aB (j:=i) rfl eF jO (.t .g1) (.t .z) rfl (by omega)) ?_
 obtain⟨al,am⟩:=aK (xs:=C) (j:=i) (by omega)
 have a6:=hCn _ (List.mem_of_getElem? am)
 refine Y.dk rfl rfl .g1 (aM rfl bP (.t .z) (WS.m .g1 am)) ?_
 refine Y.dk rfl rfl .g1 (bN (c:=al+1) rfl (.t .z) .c (wr (by omega) (by omega) (by omega))) ?_
 refine Y.dk rfl rfl .g1 (xT (c:=Int.tmod (al+1) 20) rfl (.t .z) .c (by omega) rfl) ?_
 refine Y.dk rfl rfl .g1 (aB (j:=i) rfl eF jO (.t .g8) (.t .g7) rfl (by omega)) ?_
 refine Y.add (c:=aH (gS .i64) (Int.tmod (al+1) 20) [.int .i64 (Int.tmod (al+1) 20)]) (fun _ _=>⟨rfl,trivial⟩) ?_
 refine Y.es (aC rfl rfl) rfl (oV (j:=i) rfl jO (.t .z) (.t .g1) rfl (.c .g3 (.c .z .n)) (by omega)) ?_
 refine Y.sl rfl ?_
 refine Y.w ?_
 refine Y.af (by kernel_rfl) ?_
 refine Y.ab (Y.g (Y.region (Y.mv rfl (.s16 .g7) ?_)))
 refine Y.ql rfl (bN (c:=((k+1:Nat):Int)) rfl (.t .z) .c (wr (by omega) (by omega) (by omega))) ?_
 refine Y.er (.s16 .g9) (Y.as rfl .z (Y.nil ?_))
 refine Y.ae ((k+1),List.set C i (Int.tmod (al+1) 20)) ⟨by omega,⟨by rw [List.length_set];exact hCl,aKv hCn ⟨(jP (by omega) (by omega)).1,Int.le_of_lt_add_one (jP (by omega) (by omega)).2⟩⟩⟩ (by first | omega |(dsimp only;omega)) (.c .z (.c (.s16 .g10) (.c (.s16 .g11) (.c (.s16 .g12) (.c (.s16 .g13) (.c (.s16 .g14) (.c (.s16 .g15) .n))))))) (fun _ h=>h.sel (.c .g1 (.c .g1 (.c .z (.c .z (.c .z (.c .z .n)))))))
 refine Y.exit (Y.y (Y.y (Y.ag (Y.ab (Y.g (Y.region (Y.mv rfl .g13 ?_)))))))
 refine Y.ql rfl (bN (c:=((i+1:Nat):Int)) rfl (.t .z) .c (wr (by omega) (by omega) (by omega))) ?_
 refine Y.er .g15 (Y.as rfl .z (Y.nil ?_))
 refine Y.ae ((i+1),(y+1),C) ⟨by omega,⟨by omega,by assumption,by assumption⟩⟩ (by first | omega |(dsimp only;omega)) (.c .z (.c .g16 (.c (.s16 .g1) (.c (.s16 .g2) (.c (.s16 .g3) (.c (.s16 .g4) .n)))))) (fun _ h=>h.sel (.c .g1 (.c .g1 (.c .g1 (.c .z (.c .z (.c .z .n)))))))
 refine Y.r rfl rfl .z rfl rfl (by decide) rfl ?_
 refine Y.r rfl rfl .g1 rfl rfl (by decide) rfl ?_
 refine Y.r rfl rfl .g2 rfl rfl (by decide) rfl ?_
 refine Y.r rfl rfl .g3 rfl rfl (by decide) rfl ?_
 refine Y.r rfl rfl .g4 rfl rfl (by decide) rfl ?_
 refine Y.r rfl rfl .g5 rfl rfl (by decide) rfl ?_
 refine Y.r rfl rfl .g6 rfl rfl (by decide) rfl ?_
 refine Y.r rfl rfl .g7 rfl rfl (by decide) rfl ?_
 refine Y.ql rfl (bH rfl (.t .g8) .c) (Y.nt ?_)
 refine Y.ap (.t .z) ?_
 refine Y.exit (Y.y (Y.y (Y.ag (Y.ab (Y.g (Y.region (Y.mv rfl .g13 ?_)))))))
 refine Y.ql rfl (bN (c:=((i+1:Nat):Int)) rfl (.t .z) .c (wr (by omega) (by omega) (by omega))) ?_
 refine Y.er .g15 (Y.as rfl .z (Y.nil ?_))
 refine Y.ae ((i+1),(y+1),C) ⟨by omega,⟨by omega,by assumption,by assumption⟩⟩ (by first | omega |(dsimp only;omega)) (.c .z (.c .g16 (.c (.s16 .g1) (.c (.s16 .g2) (.c (.s16 .g3) (.c (.s16 .g4) .n)))))) (fun _ h=>h.sel (.c .g1 (.c .g1 (.c .g1 (.c .z (.c .z (.c .z .n)))))))
 refine Y.exit (Y.y (Y.y (Y.ag (Y.g (Y.seq (Y.region ?_))))))
 refine Y.cl rfl rfl Tryz.func57 rfl rfl (bG (.t .g11)) .n (fun _ _ hs tr=>aLg (tr.ptr .g1 (iU (⟨aa.kind,aa.links,aa.size,B,aa.ents⟩:aF) (tr.own .g2) (tr.own .g3)))) ?_
 rintro _ _ ⟨rfl,rfl⟩
 refine Y.m .n ?_
 refine Y.ql rfl (bU rfl (.t .z) .c) (Y.nt ?_)
 refine Y.u (.t .z) (fun bt=> ?_) (fun bt=> ?_)
 refine Y.region (Y.mv rfl .g15 (Y.ql rfl (qW rfl fH (.t .g14) .g1 aT) ?_))
 refine Y.el rfl (aQ (cs:= [.int .i64 aa.kind,.int .i64 aa.links,.int .i64 aa.size,.slice af aa.blocks.length ag,.slice ah aa.ents.length ai]) rfl cQ (inz mN) (by decide) (pv1 (.t .z)) rfl rfl (by decide) rfl rfl) ?_
 rintro _ _ ⟨g25,rfl,rfl⟩
 refine Y.ad (c:=aH cR (⟨aa.kind,aa.links,aa.size,B,aa.ents⟩:aF) [.int .i64 aa.kind,.int .i64 aa.links,.int .i64 aa.size,.slice af aa.blocks.length ag,.slice ah aa.ents.length ai]) (.c .g3 (.c .g3 .n)) (fun w S h=>cZ (⟨aa.kind,aa.links,aa.size,B,aa.ents⟩:aF) h) ?_
 refine Y.el rfl (dK rfl cQ mN rfl (.t .g2) (.t .z) (.c .g4 (.c .g1 (.c .z .n))) (by first | omega |(simp <;> omega)) (by first | omega |(simp <;> omega))) ?_
 rintro _ _ rfl
 refine Y.h (WS.a .z) ?_
 rintro⟨au,av,rfl,a7,a8,a9⟩
 refine Y.er (.s16 .g3) (Y.as rfl .z (Y.nil (Y.ab (Y.g (Y.region (Y.mv rfl (.s16 .g3) ?_))))))
 refine Y.ql rfl (iT (c:=n - 1) rfl (.t .z) .c (wr (by omega) (by omega) (by omega))) ?_
 refine Y.er (.s16 .g5) (Y.as rfl .z (Y.nil ?_))
 refine Y.ae (au,av,n - 1,(y+1),O++ [(⟨aa.kind,aa.links,aa.size,B,aa.ents⟩:aF)]) ⟨by omega,by omega,(by first | exact hO | exact oJ hO (by assumption) (by omega)),(by first | omega |(simp <;> omega))⟩ (by first | omega |(dsimp only;omega)) (.c .z (.c .g3 (.c (.s16 .g6) (.c (.s16 .g7) .n)))) (fun _ h=>h.sel (.c .z (.c .z (.c .g1 .n))))
 refine Y.skip (Y.ab (Y.g (Y.region (Y.mv rfl .g14 ?_))))
 refine Y.ql rfl (iT (c:=n - 1) rfl (.t .z) .c (wr (by omega) (by omega) (by omega))) ?_
 refine Y.er .g16 (Y.as rfl .z (Y.nil ?_))
 refine Y.ae (ac,ad,n - 1,(y+1),O) ⟨by omega,by omega,(by first | exact hO | exact oJ hO (by assumption) (by omega)),(by first | omega |(simp <;> omega))⟩ (by first | omega |(dsimp only;omega)) (.c .z (.c (.s16 .g1) (.c (.s16 .g2) (.c (.s16 .g3) .n)))) (fun _ h=>h.sel (.c .g4 (.c .z (.c .g3 .n))))
 refine Y.r rfl rfl .z rfl rfl (by decide) rfl ?_
 refine Y.r rfl rfl .g1 rfl rfl (by decide) rfl ?_
 refine Y.r rfl rfl .g2 rfl rfl (by decide) rfl ?_
 refine Y.ql rfl (bH rfl (.t .g3) .c) (Y.nt ?_)
 refine Y.ap (.t .z) ?_
 refine Y.exit (Y.y (Y.y (Y.ag (Y.g (Y.seq (Y.region ?_))))))
 refine Y.cl rfl rfl Tryz.func57 rfl rfl (bG (.t .g11)) .n (fun _ _ hs tr=>aLg (tr.ptr .z (iU (⟨aa.kind,aa.links,aa.size,B,aa.ents⟩:aF) (tr.own .g1) (tr.own .g2)))) ?_
 rintro _ _ ⟨rfl,rfl⟩
 refine Y.m .n ?_
 refine Y.ql rfl (bU rfl (.t .z) .c) (Y.nt ?_)
 refine Y.u (.t .z) (fun bu=> ?_) (fun bu=> ?_)
 refine Y.region (Y.mv rfl .g15 (Y.ql rfl (qW rfl fH (.t .g14) .z aT) ?_))
 refine Y.el rfl (aQ (cs:= [.int .i64 aa.kind,.int .i64 aa.links,.int .i64 aa.size,.slice af aa.blocks.length ag,.slice ah aa.ents.length ai]) rfl cQ (inz mN) (by decide) (pv1 (.t .z)) rfl rfl (by decide) rfl rfl) ?_
 rintro _ _ ⟨g29,rfl,rfl⟩
 refine Y.ad (c:=aH cR (⟨aa.kind,aa.links,aa.size,B,aa.ents⟩:aF) [.int .i64 aa.kind,.int .i64 aa.links,.int .i64 aa.size,.slice af aa.blocks.length ag,.slice ah aa.ents.length ai]) (.c .g2 (.c .g2 .n)) (fun w S h=>cZ (⟨aa.kind,aa.links,aa.size,B,aa.ents⟩:aF) h) ?_
 refine Y.el rfl (dK rfl cQ mN rfl (.t .g2) (.t .z) (.c .g4 (.c .g1 (.c .z .n))) (by first | omega |(simp <;> omega)) (by first | omega |(simp <;> omega))) ?_
 rintro _ _ rfl
 refine Y.h (WS.a .z) ?_
 rintro⟨aw,ax,rfl,ba,bb,bc⟩
 refine Y.er (.s16 .g3) (Y.as rfl .z (Y.nil (Y.ab (Y.g (Y.region (Y.mv rfl (.s16 .g3) ?_))))))
 refine Y.ql rfl (iT (c:=n - 1) rfl (.t .z) .c (wr (by omega) (by omega) (by omega))) ?_
 refine Y.er (.s16 .g5) (Y.as rfl .z (Y.nil ?_))
 refine Y.ae (aw,ax,n - 1,y,O++ [(⟨aa.kind,aa.links,aa.size,B,aa.ents⟩:aF)]) ⟨by omega,by omega,(by first | exact hO | exact oJ hO (by assumption) (by omega)),(by first | omega |(simp <;> omega))⟩ (by first | omega |(dsimp only;omega)) (.c .z (.c .g3 (.c (.s16 .g6) (.c (.s16 .g7) .n)))) (fun _ h=>h.sel (.c .z (.c .g1 (.c .g1 .n))))
 refine Y.skip (Y.ab (Y.g (Y.region (Y.mv rfl .g14 ?_))))
 refine Y.ql rfl (iT (c:=n - 1) rfl (.t .z) .c (wr (by omega) (by omega) (by omega))) ?_
 refine Y.er .g16 (Y.as rfl .z (Y.nil ?_))
 refine Y.ae (ac,ad,n - 1,y,O) ⟨by omega,by omega,(by first | exact hO | exact oJ hO (by assumption) (by omega)),(by first | omega |(simp <;> omega))⟩ (by first | omega |(dsimp only;omega)) (.c .z (.c (.s16 .g1) (.c (.s16 .g2) (.c (.s16 .g3) .n)))) (fun _ h=>h.sel (.c .g4 (.c .g3 (.c .g3 .n))))
 refine Y.exit (Y.y (Y.y (Y.ag (Y.g (Y.seq (Y.seq (Y.region (Y.mv rfl .g5 ?_))))))))
 refine Y.cl rfl rfl Tryz.func30 rfl rfl (aS (.t .z) .c) (.c .g1 .n) (fun _ _ hs tr=>mV (tr.ctx hcd) _ hs (by omega) (by omega)) ?_
 rintro _ _ ⟨b6,h0m32,h1m32,rfl,rfl⟩
 refine Y.m (.c .n) ?_
 refine Y.nt (Y.block (Y.seq (Y.region (Y.ql rfl (bU rfl (.t .z) .c) (Y.as rfl .z (Y.nt ?_))))))
 refine Y.u (.t .z) (fun bv=> ?_) (fun bv=> ?_)
 refine Y.region (Y.mv rfl .g7 (Y.mv rfl .g10 ?_))
 refine Y.cl rfl rfl Tryz.func58 rfl rfl (bG (.t .z)) (.c .z .n) (fun _ _ hs tr=>aOv (tr.ctx hcd) hs (by omega)) ?_
 rintro _ _ ⟨ab,b7,b8,u35,ay,rfl,rfl⟩
 refine Y.m (.c (.c (.c .n))) ?_
 refine Y.h (WS.a .z) ?_
 rintro⟨an,ao,rfl,bd,be,bf⟩
 refine Y.h (WS.a .g1) ?_
 rintro⟨ap,aq,rfl,bg,bh,bi⟩
 refine Y.el rfl (aQ (cs:= [.int .i64 ab.kind,.int .i64 ab.links,.int .i64 ab.size,.slice an ab.blocks.length ao,.slice ap ab.ents.length aq]) rfl cQ (inz mN) (by decide) (pv1 (.t .z)) rfl rfl (by decide) rfl rfl) ?_
 rintro _ _ ⟨g42,rfl,rfl⟩
 refine Y.ad (c:=aH cR (⟨ab.kind,ab.links,ab.size,ab.blocks,ab.ents⟩:aF) [.int .i64 ab.kind,.int .i64 ab.links,.int .i64 ab.size,.slice an ab.blocks.length ao,.slice ap ab.ents.length aq]) (.c .g1 (.c .g1 .n)) (fun w S h=>cZ (⟨ab.kind,ab.links,ab.size,ab.blocks,ab.ents⟩:aF) h) ?_
 refine Y.el rfl (dK rfl cQ mN rfl (.t .g3) (.t .z) (.c .g3 (.c .g1 (.c .z .n))) (by first | omega |(simp <;> omega)) (by first | omega |(simp <;> omega))) ?_
 rintro _ _ rfl
 refine Y.h (WS.a .z) ?_
 rintro⟨bw,bx,rfl,bj,bk,bm⟩
 refine Y.er .g12 (Y.as rfl .z (Y.nil (Y.ab (Y.g (Y.seq (Y.region (Y.mv rfl .z (Y.er .g14 ?_))))))))
 refine Y.as rfl .z (Y.nt (Y.ret ?_))
 refine Y.i (aU rfl .z) (.c .z (.c .z .n)) ?_
 exact⟨_,_,⟨by first | omega |(simp <;> omega),by omega,by omega⟩,rfl⟩
 refine Y.seq (Y.region (Y.ql rfl (bU rfl (.t .g2) .c) (Y.as rfl .z (Y.nt ?_))))
 refine Y.u (.t .z) (fun bz=> ?_) (fun bz=> ?_)
 refine Y.region (Y.mv rfl .g11 ?_)
 refine Y.cl rfl rfl Tryz.func30 rfl rfl (aS (.t .z) .c) (.c .z .n) (fun _ _ hs tr=>mV (tr.ctx hcd) _ hs (by omega) (by omega)) ?_
 rintro _ _ ⟨ar,h0m46,h1m46,rfl,rfl⟩
 refine Y.m (.c .n) ?_
 refine Y.ql rfl (bN (c:=10+ar) rfl .c (.t .z) (wr (by omega) (by omega) (by omega))) ?_
 refine Y.eq .z (congrArg (Value.int .i64) (show 10+ar=((Int.toNat (10+ar):Nat):Int) by omega)) ?_
 refine Y.el rfl (lJ (n:=Int.toNat (10+ar)) (x0:=(⟨0,0,0,[],[]⟩:aF)) rfl cQ mN rfl (fun w S=>aI5 w S) (.t .z) (.t .z) (by omega) (by omega)) ?_
 rintro _ _ rfl
 refine Y.h (WS.a .z) ?_
 rintro⟨b0,b1,rfl,bn,bo,bp⟩
 refine Y.er .g13 (Y.as rfl .z (Y.nil (Y.ab (Y.g (Y.seq (Y.region (Y.mv rfl .z (Y.er .g15 ?_))))))))
 refine Y.as rfl .z (Y.nt (Y.ret ?_))
 refine Y.i (aU rfl .z) (.c .z (.c .z .n)) ?_
 exact⟨_,_,⟨by first | omega |(simp <;> omega),by omega,by omega⟩,rfl⟩
 refine Y.skip (Y.ab (Y.g (Y.seq (Y.region (Y.mv rfl .g9 (Y.er .g11 (Y.as rfl .z (Y.nil ?_))))))))
 refine Y.g (Y.ret ?_)
 refine Y.i (aU rfl .z) (.c .g1 (.c .z .n)) ?_
 exact⟨_,_,⟨by first | omega |(simp <;> omega),by omega,by omega⟩,rfl⟩

end Go.Proofs.YtmejbfmhaoilmaaGreatDoor

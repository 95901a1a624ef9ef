/- What is proved: contracts of functions, one a function. No condition. -/
import Derived.Test.YtmejbfmhaoilmaaGreatBase1
import Derived.Test.YtmejbfmhaoilmaaGreatW3
import Derived.Test.YtmejbfmhaoilmaaGreatBase2
namespace Go.Proofs.YtmejbfmhaoilmaaGreat
open Go Go.RowKit
set_option linter.unusedVariables false
set_option linter.unusedSimpArgs false
set_option maxHeartbeats 1000000
set_option maxRecDepth 20000
theorem aKd {w0:World}{S0:Bs}{cd:(List UInt8)}{v0:Value} (h0:cX.ro w0 (FF w0 S0) cd [v0]):
    Calls Tryz.prog 40 #[v0] w0 (aJ w0 S0 (fun r l=>∃g:Nat,r= .pointer (some ⟨g,0,none⟩)∧l= [cM g 119 2 1 [v0,.int .i64 0]])):=by
 obtain⟨A0,c0,rfl,hl0,hm0,hb0,he0⟩:=aH h0
 refine Y.enter (N:=6) Tryz.func40 rfl rfl (by simp) [(0,.slice A0 cd.length c0)] (by simp) (l0:= []) trivial ?_
 refine Y.seq (Y.region (Y.ql rfl (aA rfl .c) (Y.nt (Y.seq (Y.region (Y.mv rfl .g1 (Y.ql rfl (aZ (cs:= [.slice A0 cd.length c0,.int .i64 0]) rfl aKs (pv1 (.t .z)) rfl) ?_)))))))
 refine Y.el rfl (fT (cs:= [.slice A0 cd.length c0,.int .i64 0]) (n:=2) rfl (.t .z) rfl rfl) ?_
 rintro _ _ ⟨g2,rfl,rfl⟩
 refine Y.er .g3 (Y.as rfl .z (Y.nt (Y.ret ?_)))
 refine Y.i (aY rfl .z) (.c .z .n) ?_
 exact⟨_,rfl,rfl⟩

theorem mG {w0:World}{S0:Bs}{g0 e0 s0:Nat}{aa:List Value}{cd:List UInt8}{Ac:Option Addr}{cc:Nat} (hcd:cX.ro w0 (FF w0 S0) cd [.slice Ac cd.length cc]) {a:Int} (n:Int) (hs:cB [cM g0 e0 s0 1 ((.slice Ac cd.length cc) :: (.int .i64 a) :: aa)] w0 S0) (ha:0≤a∧a≤1000000) (hn:n≤1000000):
    Calls Tryz.prog 42 #[.pointer (some ⟨g0,0,none⟩),.int .i64 n] w0 (aJ w0 S0 (fun r l=>∃m:Int,0≤m∧(1≤n→m<n)∧r= .int .i64 m∧l= [cM g0 e0 s0 1 (.slice Ac cd.length cc :: .int .i64 (a+1) :: aa)])):=by
 obtain⟨hlc,hmc,hbc⟩:=nG hcd
 refine Y.enter (N:=71) Tryz.func42 rfl rfl (by simp) [(0,.pointer (some ⟨g0,0,none⟩)),(1,.int .i64 n)] (by simp) hs ?_
 refine Y.seq (Y.region (Y.ql rfl (aA rfl .c) (Y.nt (Y.seq (Y.region (Y.mv rfl .g1 (Y.mv rfl .g2 ?_)))))))
 refine Y.nc rfl .z (Y.fa rfl .z yF (Y.ld rfl cF .z .z ?_))
 refine Y.ql rfl (bQ (c:=a+1) rfl (.t .z) .c (wr (by omega) (by omega) (by omega))) ?_
 refine Y.nc rfl .g5 (Y.fa rfl .z yF ?_)
 refine Y.es (aD rfl) rfl (yL (off:=1) (cs:= [.int .i64 (a+1)]) rfl jQ (.t .z) (.t .g2) rfl (lZ rfl) .z (by simp only [List.length_cons,List.length_nil];omega) (.c .g1 .n)) ?_
 refine Y.nt (Y.seq (Y.seq (Y.region (Y.mv rfl .g10 (Y.ql rfl (dJ rfl (.t .z) .c) (Y.nt ?_))))))
 refine Y.u (.t .z) (fun b2=> ?_) (fun b2=> ?_)
 refine Y.seq (Y.region (Y.er .g10 (Y.ql rfl (aA rfl .c) (Y.nt (Y.ret (Y.r ?_))))))
 refine Y.i (aY rfl .z) (.c .z .n) ?_
 exact⟨0,by omega,fun h=>by omega,rfl,rfl⟩
 refine Y.skip (Y.g (Y.seq (Y.region (Y.mv rfl .g11 (Y.nc rfl .z (Y.fa rfl .z yF (Y.ld rfl cF .z .z ?_)))))))
 refine Y.ql rfl (jL (c:=(a+1) - 1) rfl (.t .z) .c (wr (by omega) (by omega) (by omega))) ?_
 refine Y.as rfl .z (Y.nt (Y.seq (Y.region (Y.mv rfl (.s16 .g1) (Y.nc rfl .z (Y.fa rfl .z xG (Y.ld rfl nL .z .z ?_)))))))
 refine Y.ql rfl (bM rfl gV (.t .z)) (Y.as rfl .z (Y.nt (Y.seq (Y.seq (Y.region (Y.mv rfl .z (Y.ql rfl (bZ rfl (.t .z) .c) ?_)))))))
 refine Y.nt ?_
 refine Y.u (.t .z) (fun b3=> ?_) (fun b3=> ?_)
 refine Y.seq (Y.region (Y.mv rfl .g8 ?_))
 refine Y.ql rfl (sU (c:=((a+1) - 1) * 7) rfl (.t .z) .c (wr (by omega) (by omega) (by omega))) ?_
 refine Y.mv rfl (.s16 .g12) ?_
 refine Y.ql rfl (xR (c:=Int.tmod (((a+1) - 1) * 7) n) rfl (.t .g1) (.t .z) (by omega) rfl) ?_
 refine Y.er (.s16 .g12) (Y.as rfl .z (Y.nt (Y.ret (Y.r ?_))))
 refine Y.i (aY rfl .z) (.c .z .n) ?_
 exact⟨_,(jR (by omega) (by omega)).1,fun h=>(jR (by omega) (by omega)).2,rfl,rfl⟩
 refine Y.skip (Y.g (Y.seq ?_))
 have aj:=jR (x:=a+1 - 1) (n:=(cd.length:Int)) (by omega) (by omega);have ak:=aG2 (x:=a+1 - 1) (n:=(cd.length:Int)) (by omega) (by omega);have al:=jR (x:=a+1 - 1+1) (n:=(cd.length:Int)) (by omega) (by omega)
 refine Y.dr .z 15 gG ?_
 refine Y.sc (qs 0 15++ [(15,false)]) (by kernel_rfl) ?_
 refine Y.dm rfl rfl .z (.s16 .g9) (Y.dn rfl rfl .z .z (Y.df rfl rfl .z .z xG (Y.dl rfl rfl .z nL .z .z (Y.dm rfl rfl .z .g12 (Y.dm rfl rfl .z .g7 ?_)))))
 refine Y.dk rfl rfl .z (xR (c:=Int.tmod ((a+1) - 1) (cd.length:Int)) rfl (.t .g1) (.t .z) (by omega) rfl) ?_
 obtain⟨au,ac,ab⟩:=(aJr hcd) (by omega)
 subst ac
 obtain⟨x5,am⟩:=aI (xs:=cd) (j:=Int.toNat (Int.tmod ((a+1) - 1) (cd.length:Int))) (by omega)
 obtain⟨an,ad,ae,af⟩:=ab.elem am
 obtain⟨rfl,av⟩:=ad
 have ao:=UInt8.toNat_lt x5
 refine Y.dk rfl rfl .z (aC (j:=Int.toNat (Int.tmod ((a+1) - 1) (cd.length:Int))) rfl gV aAf (.t .g3) (.t .z) (by omega) (by omega)) ?_
 refine Y.dk rfl rfl .z (aL rfl aKk (.t .z) (WS.j ae af rfl)) ?_
 refine Y.dk rfl rfl .z (aC5 (c:=(x5.toNat:Int)) rfl (.t .z) u_5 u_2 (wr rfl (by omega) (by have:=UInt8.toNat_lt x5;omega))) ?_
 refine Y.dm rfl rfl .z (.s16 .g2) (Y.dm rfl rfl .z .g13 ?_)
 refine Y.dk rfl rfl .z (aHi (c:=((a+1) - 1) / (cd.length:Int)) rfl (.t .g1) (.t .z) (by omega) (aDf (by omega) (by omega) (by omega))) ?_
 refine Y.dk rfl rfl .z (sU (c:=(((a+1) - 1) / (cd.length:Int)) * 37) rfl (.t .z) .c (wr (by omega) (by omega) (by omega))) ?_
 refine Y.dk rfl rfl .z (bQ (c:=(x5.toNat:Int)+((((a+1) - 1) / (cd.length:Int)) * 37)) rfl (.t .g4) (.t .z) (wr (by omega) (by omega) (by omega))) ?_
 refine Y.q (aE rfl rfl) rfl (by decide) rfl (aA rfl (.t .z)) ?_
 refine Y.sl rfl ?_
 refine Y.aa ?_
 refine Y.ag (by kernel_rfl) ?_
 refine Y.g (Y.seq (Y.seq (Y.region (Y.mv rfl (.s16 (.s16 .g10)) (Y.ql rfl (gO rfl (.t .z) .c) (Y.nt ?_))))))
 refine Y.u (.t .z) (fun b7=> ?_) (fun b7=> ?_)
 have aj:=jR (x:=a+1 - 1) (n:=(cd.length:Int)) (by omega) (by omega);have ak:=aG2 (x:=a+1 - 1) (n:=(cd.length:Int)) (by omega) (by omega);have al:=jR (x:=a+1 - 1+1) (n:=(cd.length:Int)) (by omega) (by omega)
 refine Y.dr .z 17 gG ?_
 refine Y.sc (qs 0 17++ [(17,false)]) (by kernel_rfl) ?_
 refine Y.dm rfl rfl .z .g2 ?_
 refine Y.dk rfl rfl .z (sU (c:=((x5.toNat:Int)+((((a+1) - 1) / (cd.length:Int)) * 37)) * 251) rfl (.t .z) .c (wr (by omega) (by omega) (by omega))) ?_
 refine Y.dm rfl rfl .z (.s16 (.s16 .g13)) (Y.dn rfl rfl .z .z (Y.df rfl rfl .z .z xG (Y.dl rfl rfl .z nL .z .z (Y.dm rfl rfl .z (.s16 .g16) ?_))))
 refine Y.dk rfl rfl .z (bQ (c:=((a+1) - 1)+1) rfl (.t .z) .c (wr (by omega) (by omega) (by omega))) ?_
 refine Y.dm rfl rfl .z (.s16 .g12) ?_
 refine Y.dk rfl rfl .z (xR (c:=Int.tmod (((a+1) - 1)+1) (cd.length:Int)) rfl (.t .g1) (.t .z) (by omega) rfl) ?_
 obtain⟨x8,ap⟩:=aI (xs:=cd) (j:=Int.toNat (Int.tmod (((a+1) - 1)+1) (cd.length:Int))) (by omega)
 obtain⟨aq,ag,ah,ai⟩:=ab.elem ap
 obtain⟨rfl,aw⟩:=ag
 have ar:=UInt8.toNat_lt x8
 refine Y.dk rfl rfl .z (aC (j:=Int.toNat (Int.tmod (((a+1) - 1)+1) (cd.length:Int))) rfl gV aAf (.t .g4) (.t .z) (by omega) (by omega)) ?_
 refine Y.dk rfl rfl .z (aL rfl aKk (.t .z) (WS.j ah ai rfl)) ?_
 refine Y.dk rfl rfl .z (aC5 (c:=(x8.toNat:Int)) rfl (.t .z) u_5 u_2 (wr rfl (by omega) (by have:=UInt8.toNat_lt x8;omega))) ?_
 refine Y.dk rfl rfl .z (sU (c:=((x8.toNat * 13:Nat):Int)) rfl (.t .z) .c (wr (by omega) (by omega) (by omega))) ?_
 refine Y.dk rfl rfl .z (bQ (c:=(((x5.toNat:Int)+((((a+1) - 1) / (cd.length:Int)) * 37)) * 251)+((x8.toNat * 13:Nat):Int)) rfl (.t .g12) (.t .z) (wr (by omega) (by omega) (by omega))) ?_
 refine Y.dm rfl rfl .z (.s16 (.s16 .g9)) ?_
 refine Y.dk rfl rfl .z (bQ (c:=((((x5.toNat:Int)+((((a+1) - 1) / (cd.length:Int)) * 37)) * 251)+((x8.toNat * 13:Nat):Int))+((a+1) - 1)) rfl (.t .g1) (.t .z) (wr (by omega) (by omega) (by omega))) ?_
 refine Y.er (.s16 .g3) ?_
 refine Y.q (aE rfl rfl) rfl (by decide) rfl (aA rfl (.t .z)) ?_
 refine Y.sl rfl ?_
 refine Y.aa ?_
 refine Y.ag (by kernel_rfl) ?_
 refine Y.g (Y.seq (Y.region (Y.mv rfl .z (Y.mv rfl (.s16 (.s16 (.s16 .g14))) ?_))))
 refine Y.ql rfl (xR (c:=Int.tmod (((((x5.toNat:Int)+((((a+1) - 1) / (cd.length:Int)) * 37)) * 251)+((x8.toNat * 13:Nat):Int))+((a+1) - 1)) n) rfl (.t .g1) (.t .z) (by omega) rfl) ?_
 refine Y.er (.s16 (.s16 (.s16 .g14))) (Y.as rfl .z (Y.nt (Y.ret ?_)))
 refine Y.i (aY rfl .z) (.c .z .n) ?_
 exact⟨_,(jR (by omega) (by omega)).1,fun h=>(jR (by omega) (by omega)).2,rfl,rfl⟩
 refine Y.skip (Y.g (Y.seq (Y.region (Y.mv rfl .g2 (Y.mv rfl (.s16 (.s16 .g13)) ?_)))))
 refine Y.ql rfl (xR (c:=Int.tmod ((x5.toNat:Int)+((((a+1) - 1) / (cd.length:Int)) * 37)) n) rfl (.t .g1) (.t .z) (by omega) rfl) ?_
 refine Y.er (.s16 (.s16 .g13)) (Y.as rfl .z (Y.nt (Y.ret ?_)))
 refine Y.i (aY rfl .z) (.c .z .n) ?_
 exact⟨_,(jR (by omega) (by omega)).1,fun h=>(jR (by omega) (by omega)).2,rfl,rfl⟩

theorem aAo {w0:World}{S0:Bs}{g0 e0 s0:Nat}{post0:List Value}{cd:List UInt8}{Ac:Option Addr}{cc:Nat} (hcd:cX.ro w0 (FF w0 S0) cd [.slice Ac cd.length cc]) {a:Int} (n:Int) (hs:cB [cM g0 e0 s0 1 ((.slice Ac cd.length cc) :: (.int .i64 a) :: post0)] w0 S0) (ha:0≤a∧a≤1000000) (hn:n≤1000000):
    Calls Tryz.prog 87 #[.pointer (some ⟨g0,0,none⟩),.int .i64 n] w0 (aJ w0 S0 (fun r l=>∃b:Bool,r= .bool b∧l= [cM g0 e0 s0 1 (.slice Ac cd.length cc :: .int .i64 (a+1) :: post0)])):=by
 obtain⟨hlc,hmc,hbc⟩:=nG hcd
 refine Y.enter (N:=9) Tryz.func87 rfl rfl (by simp) [(0,.pointer (some ⟨g0,0,none⟩)),(1,.int .i64 n)] (by simp) hs ?_
 refine Y.seq (Y.region (Y.ql rfl (aA rfl .c) (Y.nt (Y.seq (Y.region (Y.mv rfl .g1 (Y.mv rfl .g3 ?_)))))))
 refine Y.cl rfl rfl Tryz.func42 rfl rfl (aX (.t .g1) (.t .z)) (.c .z .n) (fun _ _ hs tr=>mG (tr.ctx hcd) _ hs (by omega) (by omega)) ?_
 rintro _ _ ⟨m2,h0m2,h1m2,rfl,rfl⟩
 refine Y.m (.c .n) ?_
 refine Y.ql rfl (bZ rfl (.t .z) .c) (Y.er .g4 (Y.as rfl .z (Y.nt (Y.ret ?_))))
 refine Y.i (aY rfl .z) (.c .z .n) ?_
 exact⟨_,rfl,rfl⟩

theorem tC {w0:World}{S0:Bs}{g0 e0 s0:Nat}{aa:List Value}{cd:List UInt8}{Ac:Option Addr}{cc:Nat} (hcd:cX.ro w0 (FF w0 S0) cd [.slice Ac cd.length cc]) {a:Int}{ls:(List Int)}{v1:Value} (h1:bY.ro w0 (FF w0 S0) ls [v1]) (hs:cB [cM g0 e0 s0 1 ((.slice Ac cd.length cc) :: (.int .i64 a) :: aa)] w0 S0) (ha:0≤a∧a≤1000000) (hn:1≤ls.length∧ls.length≤1000):
    Calls Tryz.prog 41 #[.pointer (some ⟨g0,0,none⟩),v1] w0 (aJ w0 S0 (fun r l=>∃m:Int,m∈ls∧r= .int .i64 m∧l= [cM g0 e0 s0 1 (.slice Ac cd.length cc :: .int .i64 (a+1) :: aa)])):=by
 obtain⟨hlc,hmc,hbc⟩:=nG hcd
 obtain⟨A1,c1,rfl,aj,ak,al,ag⟩:=aH h1
 refine Y.enter (N:=12) Tryz.func41 rfl rfl (by simp) [(0,.pointer (some ⟨g0,0,none⟩)),(1,.slice A1 ls.length c1)] (by simp) hs ?_
 refine Y.seq (Y.region (Y.ql rfl (aA rfl .c) (Y.nt (Y.seq (Y.region (Y.mv rfl .g2 (Y.mv rfl .g2 ?_)))))))
 refine Y.mv rfl .g4 (Y.ql rfl (bM rfl eQ (.t .z)) ?_)
 refine Y.cl rfl rfl Tryz.func42 rfl rfl (aX (.t .g2) (.t .z)) (.c .z .n) (fun _ _ hs tr=>mG (tr.ctx hcd) _ hs (by omega) (by omega)) ?_
 rintro _ _ ⟨m3,h0m3,h1m3,rfl,rfl⟩
 refine Y.m (.c .n) ?_
 obtain⟨am,ab,ac⟩:=ag (by omega)
 subst ab
 obtain⟨x5,ah⟩:=aI (xs:=ls) (j:=Int.toNat m3) (by omega)
 obtain⟨ai,ad,ae,af⟩:=ac.elem ah
 obtain⟨rfl,an⟩:=ad
 refine Y.ql rfl (aC (j:=Int.toNat m3) rfl eQ jQ (.t .g4) (.t .z) (by omega) (by omega)) ?_
 refine Y.ql rfl (aL rfl cF (.t .z) (WS.j ae af rfl)) (Y.er .g7 (Y.as rfl .z (Y.nt (Y.ret ?_))))
 refine Y.i (aY rfl .z) (.c .z .n) ?_
 exact⟨_,List.mem_of_getElem? (by assumption),rfl,rfl⟩

theorem c_8 {w0:World}{S0:Bs}{cd:(List UInt8)}{v0:Value} (h0:cX.ro w0 (FF w0 S0) cd [v0]):
    Calls Tryz.prog 8 #[v0] w0 (aJ w0 S0 (fun r l=>r= .bool (decide ((1048576:Int)<(cd.length:Int)))∧l= [])):=by
 obtain⟨A0,c0,rfl,hl0,hm0,hb0,he0⟩:=aH h0
 refine Y.enter (N:=6) Tryz.func8 rfl rfl (by simp) [(0,.slice A0 cd.length c0)] (by simp) (l0:= []) trivial ?_
 refine Y.seq (Y.region (Y.ql rfl (aA rfl .c) (Y.nt (Y.seq (Y.region (Y.mv rfl .g1 (Y.ql rfl (bM rfl gV (.t .z)) ?_)))))))
 refine Y.ql rfl (gO rfl (.t .z) .c) (Y.er .g3 (Y.as rfl .z (Y.nt (Y.ret ?_))))
 refine Y.i (aY rfl .z) .n ?_
 exact⟨by simp,rfl⟩

theorem aEk {w0:World}{S0:Bs}{g0 e0 s0:Nat}{aa:List Value}{cd:List UInt8}{Ac:Option Addr}{cc:Nat} (hcd:cX.ro w0 (FF w0 S0) cd [.slice Ac cd.length cc]) {a:Int} (hs:cB [cM g0 e0 s0 1 ((.slice Ac cd.length cc) :: (.int .i64 a) :: aa)] w0 S0) (ha:0≤a∧a≤1000000):
    Calls Tryz.prog 121 #[.pointer (some ⟨g0,0,none⟩)] w0 (aJ w0 S0 (fun r l=>∃s:ByteArray,cD s=0∧r= .string s∧l= [cM g0 e0 s0 1 (.slice Ac cd.length cc :: .int .i64 (a+1) :: aa)])):=by
 obtain⟨hlc,hmc,hbc⟩:=nG hcd
 refine Y.enter (N:=8) Tryz.func121 rfl rfl (by simp) [(0,.pointer (some ⟨g0,0,none⟩))] (by simp) hs ?_
 refine Y.seq (Y.region (Y.ql rfl (aA rfl .c) (Y.nt (Y.seq (Y.region ?_)))))
 refine Y.el rfl (aS (ps:= [(0,.string (⟨#[97]⟩)),(1,.string (⟨#[98]⟩)),(2,.string (⟨#[99]⟩)),(3,.string (⟨#[100]⟩)),(4,.string (⟨#[97,98]⟩)),(5,.string (⟨#[104,97,108,108]⟩))]) (cs:= [.string (⟨#[97]⟩),.string (⟨#[98]⟩),.string (⟨#[99]⟩),.string (⟨#[100]⟩),.string (⟨#[97,98]⟩),.string (⟨#[104,97,108,108]⟩)]) rfl hZ (inz lQ) (by decide) (by intro act hact;simp only [List.map_toArray,List.map_cons,List.map_nil,(show Val _ _ _ from .c) act hact,(show Val _ _ _ from .c) act hact,(show Val _ _ _ from .c) act hact,(show Val _ _ _ from .c) act hact,(show Val _ _ _ from .c) act hact,(show Val _ _ _ from .c) act hact]) rfl rfl (by decide) rfl rfl) ?_
 rintro _ _ ⟨g2,rfl,rfl⟩
 refine Y.mv rfl .g2 ?_
 refine Y.cl rfl rfl Tryz.func42 rfl rfl (aX (.t .z) .c) (.c .g1 .n) (fun _ _ hs tr=>mG (tr.ctx hcd) _ hs (by omega) (by omega)) ?_
 rintro _ _ ⟨m3,h0m3,h1m3,rfl,rfl⟩
 refine Y.m (.c .n) ?_
 refine Y.v (c:=aG fB ([⟨#[97]⟩,⟨#[98]⟩,⟨#[99]⟩,⟨#[100]⟩,⟨#[97,98]⟩,⟨#[104,97,108,108]⟩]:(List ByteArray)) [.slice (some ⟨g2,0,none⟩) 6 6]) (.c .g1 .n) (fun w S h=>gK (xs:=([⟨#[97]⟩,⟨#[98]⟩,⟨#[99]⟩,⟨#[100]⟩,⟨#[97,98]⟩,⟨#[104,97,108,108]⟩]:(List ByteArray))) h rfl (by decide) (by omega) (by omega)) ?_
 refine Y.ql rfl (aC (j:=Int.toNat m3) rfl hZ tF (.t .g2) (.t .z) (by omega) (by first | omega |(simp <;> omega))) ?_
 obtain⟨x5,ab⟩:=aI (xs:=([⟨#[97]⟩,⟨#[98]⟩,⟨#[99]⟩,⟨#[100]⟩,⟨#[97,98]⟩,⟨#[104,97,108,108]⟩]:(List ByteArray))) (j:=Int.toNat m3) (by first | omega |(simp <;> omega))
 refine Y.ql rfl (aL rfl iR (.t .z) (WS.m .z ab)) (Y.er .g5 (Y.as rfl .z (Y.nt (Y.ret ?_))))
 refine Y.i (aY rfl .z) (.c .g1 .n) ?_
 exact⟨_,(aFg _ (List.mem_of_getElem? (by assumption))),rfl,rfl⟩

theorem aBp {w0:World}{S0:Bs}{cd:(List UInt8)}{v0:Value} (h0:cX.ro w0 (FF w0 S0) cd [v0]):
    Calls Tryz.prog 122 #[v0] w0 (aJ w0 S0 (fun r l=>∃s:ByteArray,s.size≤100∧r= .string s∧l= [])):=by
 obtain⟨A0,c0,rfl,ab,ac,ad,ae⟩:=aH h0
 refine Y.enter (N:=11) Tryz.func122 rfl rfl (by simp) [(0,.slice A0 cd.length c0)] (by simp) (l0:= []) trivial ?_
 refine Y.seq (Y.region (Y.ql rfl (aA rfl .c) (Y.nt (Y.seq (Y.region (Y.mv rfl .g1 ?_))))))
 refine Y.cl rfl rfl Tryz.func40 rfl rfl (bT (.t .z)) .n (fun _ _ hs tr=>aKd (tr.ctx h0)) ?_
 rintro _ _ ⟨g2,rfl,rfl⟩
 refine Y.m (.c .n) ?_
 refine Y.as rfl .z (Y.nt (Y.seq (Y.region ?_)))
 refine Y.el rfl (aS (ps:= [(0,.string (⟨#[97]⟩)),(1,.string (⟨#[97,98,99,100]⟩)),(2,.string (⟨#[97,98,99,100,101]⟩)),(3,.string (⟨#[]⟩)),(4,.string (⟨#[65]⟩)),(5,.string (⟨#[97,47]⟩)),(6,.string (⟨#[122,122]⟩)),(7,.string (⟨#[97,98,99,100,69]⟩))]) (cs:= [.string (⟨#[97]⟩),.string (⟨#[97,98,99,100]⟩),.string (⟨#[97,98,99,100,101]⟩),.string (⟨#[]⟩),.string (⟨#[65]⟩),.string (⟨#[97,47]⟩),.string (⟨#[122,122]⟩),.string (⟨#[97,98,99,100,69]⟩)]) rfl hZ (inz lQ) (by decide) (by intro act hact;simp only [List.map_toArray,List.map_cons,List.map_nil,(show Val _ _ _ from .c) act hact,(show Val _ _ _ from .c) act hact,(show Val _ _ _ from .c) act hact,(show Val _ _ _ from .c) act hact,(show Val _ _ _ from .c) act hact,(show Val _ _ _ from .c) act hact,(show Val _ _ _ from .c) act hact,(show Val _ _ _ from .c) act hact]) rfl rfl (by decide) rfl rfl) ?_
 rintro _ _ ⟨g3,rfl,rfl⟩
 refine Y.mv rfl .g1 ?_
 refine Y.cl rfl rfl Tryz.func42 rfl rfl (aX (.t .z) .c) (.c .g1 .n) (fun _ _ hs tr=>mG (tr.ctx h0) _ hs (by omega) (by omega)) ?_
 rintro _ _ ⟨m4,h0m4,h1m4,rfl,rfl⟩
 refine Y.m (.c .n) ?_
 refine Y.v (c:=aG fB ([⟨#[97]⟩,⟨#[97,98,99,100]⟩,⟨#[97,98,99,100,101]⟩,⟨#[]⟩,⟨#[65]⟩,⟨#[97,47]⟩,⟨#[122,122]⟩,⟨#[97,98,99,100,69]⟩]:(List ByteArray)) [.slice (some ⟨g3,0,none⟩) 8 8]) (.c .g1 .n) (fun w S h=>gK (xs:=([⟨#[97]⟩,⟨#[97,98,99,100]⟩,⟨#[97,98,99,100,101]⟩,⟨#[]⟩,⟨#[65]⟩,⟨#[97,47]⟩,⟨#[122,122]⟩,⟨#[97,98,99,100,69]⟩]:(List ByteArray))) h rfl (by decide) (by omega) (by omega)) ?_
 refine Y.ql rfl (aC (j:=Int.toNat m4) rfl hZ tF (.t .g2) (.t .z) (by omega) (by first | omega |(simp <;> omega))) ?_
 obtain⟨x6,aa⟩:=aI (xs:=([⟨#[97]⟩,⟨#[97,98,99,100]⟩,⟨#[97,98,99,100,101]⟩,⟨#[]⟩,⟨#[65]⟩,⟨#[97,47]⟩,⟨#[122,122]⟩,⟨#[97,98,99,100,69]⟩]:(List ByteArray))) (j:=Int.toNat m4) (by first | omega |(simp <;> omega))
 refine Y.ql rfl (aL rfl iR (.t .z) (WS.m .z aa)) (Y.er .g8 (Y.as rfl .z (Y.nt (Y.ret ?_))))
 refine Y.i (aY rfl .z) .n ?_
 exact⟨_,aGn _ (List.mem_of_getElem? (by assumption)),rfl,rfl⟩

end Go.Proofs.YtmejbfmhaoilmaaGreat

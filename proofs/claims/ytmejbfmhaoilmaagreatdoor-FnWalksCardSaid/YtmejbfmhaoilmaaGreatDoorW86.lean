/- What is proved: contracts of functions, one a function. No condition. -/
import Derived.Test.YtmejbfmhaoilmaaGreatDoorBase1
import Derived.Test.YtmejbfmhaoilmaaGreatDoorPart5
import Derived.Test.YtmejbfmhaoilmaaGreatDoorW55
namespace Go.Proofs.YtmejbfmhaoilmaaGreatDoor
open Go Go.RowKit
set_option linter.unusedVariables false
set_option linter.unusedSimpArgs false
set_option maxHeartbeats 1000000
set_option maxRecDepth 20000
theorem aNo {w0:World}{S0:Bs}{g0 e0 s0:Nat}{ac:List Value}{cd:List UInt8}{Ac:Option Addr}{cc:Nat} (hcd:dD.ro w0 (FF w0 S0) cd [.slice Ac cd.length cc]) {a:Int} (hs:cI [bV g0 e0 s0 1 ((.slice Ac cd.length cc) :: (.int .i64 a) :: ac)] w0 S0) (ha:0≤a∧a≤990000):
    Calls Tryz.prog 85 #[.pointer (some ⟨g0,0,none⟩)] w0 (aI w0 S0 (fun r l=>∃(x:List UInt8) (u:Int),(x.length≤11∧a≤u∧u≤a+14)∧l= [aH dD x [r],bV g0 e0 s0 1 (.slice Ac cd.length cc :: .int .i64 u :: ac)])):=by
 obtain⟨hlc,hmc,hbc⟩:=nA hcd
 refine Y.enter (N:=20) Tryz.func85 rfl rfl (by simp) [(0,.pointer (some ⟨g0,0,none⟩))] (by simp) hs ?_
 refine Y.seq (Y.region (Y.ql rfl (aA rfl .c) (Y.nt (Y.seq (Y.region ?_)))))
 refine Y.el rfl (eA rfl iJ (inz mC)) ?_
 rintro _ _ ⟨g2,rfl,rfl⟩
 refine Y.as rfl .z (Y.nt (Y.seq (Y.seq (Y.region (Y.mv rfl .g3 ?_)))))
 refine Y.cl rfl rfl Tryz.func30 rfl rfl (aS (.t .z) .c) (.c .g1 .n) (fun _ _ hs tr=>mV (tr.ctx hcd) _ hs (by omega) (by omega)) ?_
 rintro _ _ ⟨m3,h0m3,h1m3,rfl,rfl⟩
 refine Y.m (.c .n) ?_
 refine Y.as rfl .z (Y.nt (Y.block ?_))
 refine Y.add (c:=aH dD ([]:(List UInt8)) [.slice (some ⟨g2,0,none⟩) 0 0]) (fun w S=>aL w S _) ?_
 refine Y.ai (γ:=(Option Addr)×Nat×Int×Int×(List UInt8)) (fun⟨aa,ab,n,z,o⟩=> [(4,.int .i64 n),(3,.slice aa o.length ab),(2,.slice none 0 0),(0,.pointer (some ⟨g0,0,none⟩))]) (fun⟨aa,ab,n,z,o⟩=> [aH dD o [.slice aa o.length ab],bV g0 e0 s0 1 ((.slice Ac cd.length cc) :: (.int .i64 z) :: ac),bV g2 5 1 0 []]) (fun⟨aa,ab,n,z,o⟩=>(0≤n∧n≤11)∧(a≤z∧z+n≤a+13)∧(o.length:Int)+n≤11) (fun⟨aa,ab,n,z,o⟩=>n.toNat) ((some ⟨g2,0,none⟩),0,m3,(a+1),[]) ⟨by omega,by omega,by simp only [List.length_nil];omega⟩ (.c .z (.c .g3 (.c .g5 (.c .g6 .n)))) (fun _ h=>h.sel (.c .z (.c .z (.c .z .n)))) ?_
 rintro⟨aa,ab,n,z,o⟩ ⟨hn,hz,hol⟩
 refine Y.seq (Y.seq (Y.region (Y.mv rfl .z (Y.ql rfl (fI rfl (.t .z) .c) (Y.nt ?_)))))
 refine Y.u (.t .z) (fun b5=> ?_) (fun b5=> ?_)
 refine Y.skip (Y.g (Y.seq (Y.block (Y.region (Y.mv rfl .g3 (Y.mv rfl .g6 ?_))))))
 refine Y.cl rfl rfl Tryz.func30 rfl rfl (aS (.t .z) .c) (.c .g1 .n) (fun _ _ hs tr=>mV (tr.ctx hcd) _ hs (by omega) (by omega)) ?_
 rintro _ _ ⟨m6,h0m6,h1m6,rfl,rfl⟩
 refine Y.m (.c .n) ?_
 refine Y.ql rfl (bN (c:=97+m6) rfl .c (.t .z) (wr (by omega) (by omega) (by omega))) ?_
 refine Y.ql rfl (aC6 (c:=((xE (97+m6)).toNat:Int)) rfl (.t .z) u_2 u_5 (aD7 _)) ?_
 refine Y.el rfl (aQ (cs:= [.int .u8 ((xE (97+m6)).toNat:Int)]) rfl iJ (inz mC) (by decide) (pv1 (.t .z)) rfl rfl (by decide) rfl rfl) ?_
 rintro _ _ ⟨g7,rfl,rfl⟩
 refine Y.add (c:=aH vP (xE (97+m6)) [.int .u8 ((xE (97+m6)).toNat:Int)]) (fun _ _=>⟨rfl,trivial⟩) ?_
 refine Y.el rfl (dK rfl iJ mC rfl (.t .g5) (.t .z) (.c .g3 (.c .g1 (.c .z .n))) (by first | omega |(simp <;> omega)) (by first | omega |(simp <;> omega))) ?_
 rintro _ _ rfl
 refine Y.h (WS.a .z) ?_
 rintro⟨ad,ae,rfl,af,ag,ah⟩
 refine Y.er .g10 (Y.as rfl .z (Y.nil (Y.ab (Y.g (Y.region (Y.mv rfl .g10 ?_))))))
 refine Y.ql rfl (iT (c:=n - 1) rfl (.t .z) .c (wr (by omega) (by omega) (by omega))) ?_
 refine Y.er .g12 (Y.as rfl .z (Y.nil ?_))
 refine Y.ae (ad,ae,n - 1,(z+1),o++ [(xE (97+m6))]) ⟨by omega,by omega,by simp only [List.length_append,List.length_cons,List.length_nil];omega⟩ (by first | omega |(dsimp only;omega)) (.c .z (.c .g3 (.c .g13 (.c .g14 .n)))) (fun _ h=>h.sel (.c .z (.c .z (.c .z .n))))
 refine Y.exit (Y.y (Y.y (Y.ag (Y.g (Y.seq (Y.region (Y.mv rfl .g3 (Y.er .g5 ?_))))))))
 refine Y.as rfl .z (Y.nt (Y.ret ?_))
 refine Y.i (aU rfl .z) (.c .z (.c .z .n)) ?_
 exact⟨_,_,⟨by first | omega |(simp <;> omega),by omega,by omega⟩,rfl⟩

theorem aN7 {w0:World}{S0:Bs}{g0 e0 s0:Nat}{aa:List Value}{cd:List UInt8}{Ac:Option Addr}{cc:Nat} (hcd:dD.ro w0 (FF w0 S0) cd [.slice Ac cd.length cc]) {a:Int} (hs:cI [bV g0 e0 s0 1 ((.slice Ac cd.length cc) :: (.int .i64 a) :: aa)] w0 S0) (ha:0≤a∧a≤980000):
    Calls Tryz.prog 54 #[.pointer (some ⟨g0,0,none⟩)] w0 (aI w0 S0 (fun r l=>∃(x:oD) (v0_:Value) (u:Int),(x.path.size≤100∧x.to.size≤100∧a≤u∧u≤a+30)∧r= .agg #[.int .i64 x.kind,.string x.path,.string x.to,.int .i64 x.frm,.int .i64 x.size,v0_]∧l= [aH dD x.data [v0_],bV g0 e0 s0 1 (.slice Ac cd.length cc :: .int .i64 u :: aa)])):=by
 obtain⟨hlc,hmc,hbc⟩:=nA hcd
 refine Y.enter (N:=66) Tryz.func54 rfl rfl (by simp) [(0,.pointer (some ⟨g0,0,none⟩))] (by simp) hs ?_
 refine Y.seq (Y.region ?_)
 refine Y.el rfl (bB rfl aN3 rfl rfl) ?_
 rintro _ _ ⟨g2,rfl,rfl⟩
 refine Y.nt (Y.seq (Y.region (Y.mv rfl .g1 ?_)))
 refine Y.cl rfl rfl Tryz.func84 rfl rfl (bG (.t .z)) (.c .g1 .n) (fun _ _ hs tr=>aI1 (tr.ctx hcd) hs (by omega)) ?_
 rintro _ _ ⟨t3,u4,aw,rfl,rfl⟩
 refine Y.m (.c .n) ?_
 refine Y.as rfl .z (Y.nt (Y.seq (Y.seq (Y.region (Y.mv rfl .g4 ?_)))))
 refine Y.cl rfl rfl Tryz.func30 rfl rfl (aS (.t .z) .c) (.c .z .n) (fun _ _ hs tr=>mV (tr.ctx hcd) _ hs (by omega) (by omega)) ?_
 rintro _ _ ⟨m5,h0m5,h1m5,rfl,rfl⟩
 refine Y.m (.c .n) ?_
 refine Y.nt (Y.block (Y.seq (Y.seq (Y.region (Y.ql rfl (bU rfl (.t .z) .c) (Y.as rfl .z (Y.nil ?_)))))))
 refine Y.g ?_
 refine Y.u (.t .z) (fun b6=> ?_) (fun b6=> ?_)
 refine Y.skip (Y.g ?_)
 refine Y.u (.t .z) (fun b7=> ?_) (fun b7=> ?_)
 refine Y.seq (Y.region (Y.mv rfl .g4 (Y.ql rfl (aW (cs:= [.int .i64 1,.string t3,.string (⟨#[]⟩),.int .i64 0,.int .i64 0,.slice none 0 0]) rfl mB (pv2 .c (.t .z)) rfl) ?_)))
 refine Y.es (aE rfl) rfl (esW rfl (.t .g9) (.t .z) .g1 gW rfl rfl) ?_
 refine Y.nt (Y.ret (Y.v (Y.j ?_)))
 refine Y.add (c:=aH dD [] [.slice none 0 0]) (fun w S=>aL w S none) ?_
 refine Y.i (cU rfl .g9 lV .g1 gW) (.c .z (.c .g1 .n)) ?_
 exact⟨⟨1,t3,⟨#[]⟩,0,0,[]⟩,_,_,⟨by dsimp only;first | omega | decide,by dsimp only;first | omega | decide,by omega,by omega⟩,rfl,rfl⟩
 exfalso;first | omega | contradiction
 refine Y.region (Y.ql rfl (bU rfl (.t .g2) .c) (Y.er .g1 (Y.as rfl .z (Y.nt ?_))))
 refine Y.u (.t .z) (fun b9=> ?_) (fun b9=> ?_)
 refine Y.seq (Y.region (Y.mv rfl .g5 (Y.ql rfl (aW (cs:= [.int .i64 1,.string t3,.string (⟨#[]⟩),.int .i64 0,.int .i64 0,.slice none 0 0]) rfl mB (pv2 .c (.t .z)) rfl) ?_)))
 refine Y.es (aE rfl) rfl (esW rfl (.t .g10) (.t .z) .g1 gW rfl rfl) ?_
 refine Y.nt (Y.ret (Y.v (Y.j ?_)))
 refine Y.add (c:=aH dD [] [.slice none 0 0]) (fun w S=>aL w S none) ?_
 refine Y.i (cU rfl .g10 lV .g1 gW) (.c .z (.c .g1 .n)) ?_
 exact⟨⟨1,t3,⟨#[]⟩,0,0,[]⟩,_,_,⟨by dsimp only;first | omega | decide,by dsimp only;first | omega | decide,by omega,by omega⟩,rfl,rfl⟩
 refine Y.seq (Y.seq (Y.region (Y.ql rfl (bU rfl (.t .g3) .c) (Y.as rfl .z (Y.nt ?_)))))
 refine Y.u (.t .z) (fun ax=> ?_) (fun ax=> ?_)
 refine Y.skip (Y.g ?_)
 refine Y.u (.t .z) (fun ay=> ?_) (fun ay=> ?_)
 refine Y.seq (Y.region (Y.mv rfl .g7 (Y.ql rfl (aW (cs:= [.int .i64 2,.string t3,.string (⟨#[]⟩),.int .i64 0,.int .i64 0,.slice none 0 0]) rfl mB (pv2 .c (.t .z)) rfl) ?_)))
 refine Y.es (aE rfl) rfl (esW rfl (.t .g12) (.t .z) .g1 gW rfl rfl) ?_
 refine Y.nt (Y.ret (Y.v (Y.j ?_)))
 refine Y.add (c:=aH dD [] [.slice none 0 0]) (fun w S=>aL w S none) ?_
 refine Y.i (cU rfl .g12 lV .g1 gW) (.c .z (.c .g1 .n)) ?_
 exact⟨⟨2,t3,⟨#[]⟩,0,0,[]⟩,_,_,⟨by dsimp only;first | omega | decide,by dsimp only;first | omega | decide,by omega,by omega⟩,rfl,rfl⟩
 exfalso;first | omega | contradiction
 refine Y.region (Y.ql rfl (bU rfl (.t .g5) .c) (Y.er .g1 (Y.as rfl .z (Y.nt ?_))))
 refine Y.u (.t .z) (fun az=> ?_) (fun az=> ?_)
 refine Y.seq (Y.region (Y.mv rfl .g8 (Y.ql rfl (aW (cs:= [.int .i64 2,.string t3,.string (⟨#[]⟩),.int .i64 0,.int .i64 0,.slice none 0 0]) rfl mB (pv2 .c (.t .z)) rfl) ?_)))
 refine Y.es (aE rfl) rfl (esW rfl (.t .g13) (.t .z) .g1 gW rfl rfl) ?_
 refine Y.nt (Y.ret (Y.v (Y.j ?_)))
 refine Y.add (c:=aH dD [] [.slice none 0 0]) (fun w S=>aL w S none) ?_
 refine Y.i (cU rfl .g13 lV .g1 gW) (.c .z (.c .g1 .n)) ?_
 exact⟨⟨2,t3,⟨#[]⟩,0,0,[]⟩,_,_,⟨by dsimp only;first | omega | decide,by dsimp only;first | omega | decide,by omega,by omega⟩,rfl,rfl⟩
 refine Y.seq (Y.region (Y.ql rfl (bU rfl (.t .g6) .c) (Y.as rfl .z (Y.nt ?_))))
 refine Y.u (.t .z) (fun a0=> ?_) (fun a0=> ?_)
 refine Y.seq (Y.region (Y.mv rfl .g10 (Y.mv rfl .g15 ?_)))
 refine Y.cl rfl rfl Tryz.func30 rfl rfl (aS (.t .z) .c) (.c .z .n) (fun _ _ hs tr=>mV (tr.ctx hcd) _ hs (by omega) (by omega)) ?_
 rintro _ _ ⟨ag,h0m17,h1m17,rfl,rfl⟩
 refine Y.m (.c .n) ?_
 refine Y.mv rfl (.s16 .g1) ?_
 refine Y.cl rfl rfl Tryz.func30 rfl rfl (aS (.t .z) .c) (.c .z .n) (fun _ _ hs tr=>mV (tr.ctx hcd) _ hs (by omega) (by omega)) ?_
 rintro _ _ ⟨ah,h0m18,h1m18,rfl,rfl⟩
 refine Y.m (.c .n) ?_
 refine Y.ql rfl (aW (cs:= [.int .i64 4,.string t3,.string (⟨#[]⟩),.int .i64 ag,.int .i64 ah,.slice none 0 0]) rfl mB (pv4 .c (.t .g4) (.t .g2) (.t .z)) rfl) ?_
 refine Y.es (aE rfl) rfl (esW rfl (.t (.s16 .g3)) (.t .z) .g1 gW rfl rfl) ?_
 refine Y.nt (Y.ret (Y.v (Y.j ?_)))
 refine Y.add (c:=aH dD [] [.slice none 0 0]) (fun w S=>aL w S none) ?_
 refine Y.i (cU rfl (.s16 .g3) lV .g1 gW) (.c .z (.c .g1 .n)) ?_
 exact⟨⟨4,t3,⟨#[]⟩,ag,ah,[]⟩,_,_,⟨by dsimp only;first | omega | decide,by dsimp only;first | omega | decide,by omega,by omega⟩,rfl,rfl⟩
 refine Y.seq (Y.region (Y.ql rfl (bU rfl (.t .g8) .c) (Y.as rfl .z (Y.nt ?_))))
 refine Y.u (.t .z) (fun a1=> ?_) (fun a1=> ?_)
 refine Y.seq (Y.region (Y.mv rfl .g12 (Y.mv rfl (.s16 .g1) ?_)))
 refine Y.cl rfl rfl Tryz.func30 rfl rfl (aS (.t .z) .c) (.c .z .n) (fun _ _ hs tr=>mV (tr.ctx hcd) _ hs (by omega) (by omega)) ?_
 rintro _ _ ⟨ai,h0m21,h1m21,rfl,rfl⟩
 refine Y.m (.c .n) ?_
 refine Y.ql rfl (aW (cs:= [.int .i64 5,.string t3,.string (⟨#[]⟩),.int .i64 0,.int .i64 ai,.slice none 0 0]) rfl mB (pv3 .c (.t .g2) (.t .z)) rfl) ?_
 refine Y.es (aE rfl) rfl (esW rfl (.t (.s16 .g3)) (.t .z) .g1 gW rfl rfl) ?_
 refine Y.nt (Y.ret (Y.v (Y.j ?_)))
 refine Y.add (c:=aH dD [] [.slice none 0 0]) (fun w S=>aL w S none) ?_
 refine Y.i (cU rfl (.s16 .g3) lV .g1 gW) (.c .z (.c .g1 .n)) ?_
 exact⟨⟨5,t3,⟨#[]⟩,0,ai,[]⟩,_,_,⟨by dsimp only;first | omega | decide,by dsimp only;first | omega | decide,by omega,by omega⟩,rfl,rfl⟩
 refine Y.seq (Y.region (Y.ql rfl (bU rfl (.t .g10) .c) (Y.as rfl .z (Y.nt ?_))))
 refine Y.u (.t .z) (fun a2=> ?_) (fun a2=> ?_)
 refine Y.seq (Y.region (Y.mv rfl .g14 (Y.ql rfl (aW (cs:= [.int .i64 6,.string t3,.string (⟨#[]⟩),.int .i64 0,.int .i64 0,.slice none 0 0]) rfl mB (pv2 .c (.t .z)) rfl) ?_)))
 refine Y.es (aE rfl) rfl (esW rfl (.t (.s16 .g3)) (.t .z) .g1 gW rfl rfl) ?_
 refine Y.nt (Y.ret (Y.v (Y.j ?_)))
 refine Y.add (c:=aH dD [] [.slice none 0 0]) (fun w S=>aL w S none) ?_
 refine Y.i (cU rfl (.s16 .g3) lV .g1 gW) (.c .z (.c .g1 .n)) ?_
 exact⟨⟨6,t3,⟨#[]⟩,0,0,[]⟩,_,_,⟨by dsimp only;first | omega | decide,by dsimp only;first | omega | decide,by omega,by omega⟩,rfl,rfl⟩
 refine Y.seq (Y.region (Y.ql rfl (bU rfl (.t .g12) .c) (Y.as rfl .z (Y.nt ?_))))
 refine Y.u (.t .z) (fun a3=> ?_) (fun a3=> ?_)
 refine Y.seq (Y.region (Y.mv rfl .g16 (Y.ql rfl (aW (cs:= [.int .i64 7,.string t3,.string (⟨#[]⟩),.int .i64 0,.int .i64 0,.slice none 0 0]) rfl mB (pv2 .c (.t .z)) rfl) ?_)))
 refine Y.es (aE rfl) rfl (esW rfl (.t (.s16 .g5)) (.t .z) .g1 gW rfl rfl) ?_
 refine Y.nt (Y.ret (Y.v (Y.j ?_)))
 refine Y.add (c:=aH dD [] [.slice none 0 0]) (fun w S=>aL w S none) ?_
 refine Y.i (cU rfl (.s16 .g5) lV .g1 gW) (.c .z (.c .g1 .n)) ?_
 exact⟨⟨7,t3,⟨#[]⟩,0,0,[]⟩,_,_,⟨by dsimp only;first | omega | decide,by dsimp only;first | omega | decide,by omega,by omega⟩,rfl,rfl⟩
 refine Y.seq (Y.region (Y.ql rfl (bU rfl (.t .g14) .c) (Y.as rfl .z (Y.nt ?_))))
 refine Y.u (.t .z) (fun a4=> ?_) (fun a4=> ?_)
 refine Y.seq (Y.region (Y.mv rfl (.s16 .g2) (Y.mv rfl (.s16 .g7) ?_)))
 refine Y.cl rfl rfl Tryz.func84 rfl rfl (bG (.t .z)) (.c .z .n) (fun _ _ hs tr=>aI1 (tr.ctx hcd) hs (by omega)) ?_
 rintro _ _ ⟨aj,u29,ak,rfl,rfl⟩
 refine Y.m (.c .n) ?_
 refine Y.ql rfl (aW (cs:= [.int .i64 8,.string t3,.string aj,.int .i64 0,.int .i64 0,.slice none 0 0]) rfl mB (pv3 .c (.t .g2) (.t .z)) rfl) ?_
 refine Y.es (aE rfl) rfl (esW rfl (.t (.s16 .g9)) (.t .z) .g1 gW rfl rfl) ?_
 refine Y.nt (Y.ret (Y.v (Y.j ?_)))
 refine Y.add (c:=aH dD [] [.slice none 0 0]) (fun w S=>aL w S none) ?_
 refine Y.i (cU rfl (.s16 .g9) lV .g1 gW) (.c .z (.c .g1 .n)) ?_
 exact⟨⟨8,t3,aj,0,0,[]⟩,_,_,⟨by dsimp only;first | omega | decide,by dsimp only;first | omega | decide,by omega,by omega⟩,rfl,rfl⟩
 refine Y.seq (Y.seq (Y.region (Y.ql rfl (bU rfl (.t .g16) .c) (Y.as rfl .z (Y.nt ?_)))))
 refine Y.u (.t .z) (fun a5=> ?_) (fun a5=> ?_)
 refine Y.skip (Y.g ?_)
 refine Y.u (.t .z) (fun a6=> ?_) (fun a6=> ?_)
 refine Y.seq (Y.region (Y.mv rfl (.s16 .g4) (Y.mv rfl (.s16 .g9) ?_)))
 refine Y.cl rfl rfl Tryz.func84 rfl rfl (bG (.t .z)) (.c .z .n) (fun _ _ hs tr=>aI1 (tr.ctx hcd) hs (by omega)) ?_
 rintro _ _ ⟨al,u34,am,rfl,rfl⟩
 refine Y.m (.c .n) ?_
 refine Y.ql rfl (aW (cs:= [.int .i64 9,.string t3,.string al,.int .i64 0,.int .i64 0,.slice none 0 0]) rfl mB (pv3 .c (.t .g2) (.t .z)) rfl) ?_
 refine Y.es (aE rfl) rfl (esW rfl (.t (.s16 .g11)) (.t .z) .g1 gW rfl rfl) ?_
 refine Y.nt (Y.ret (Y.v (Y.j ?_)))
 refine Y.add (c:=aH dD [] [.slice none 0 0]) (fun w S=>aL w S none) ?_
 refine Y.i (cU rfl (.s16 .g11) lV .g1 gW) (.c .z (.c .g1 .n)) ?_
 exact⟨⟨9,t3,al,0,0,[]⟩,_,_,⟨by dsimp only;first | omega | decide,by dsimp only;first | omega | decide,by omega,by omega⟩,rfl,rfl⟩
 exfalso;first | omega | contradiction
 refine Y.region (Y.ql rfl (bU rfl (.t (.s16 .g2)) .c) (Y.er .g1 (Y.as rfl .z (Y.nt ?_))))
 refine Y.u (.t .z) (fun a7=> ?_) (fun a7=> ?_)
 refine Y.seq (Y.region (Y.mv rfl (.s16 .g5) (Y.mv rfl (.s16 .g10) ?_)))
 refine Y.cl rfl rfl Tryz.func84 rfl rfl (bG (.t .z)) (.c .z .n) (fun _ _ hs tr=>aI1 (tr.ctx hcd) hs (by omega)) ?_
 rintro _ _ ⟨an,u38,ao,rfl,rfl⟩
 refine Y.m (.c .n) ?_
 refine Y.ql rfl (aW (cs:= [.int .i64 9,.string t3,.string an,.int .i64 0,.int .i64 0,.slice none 0 0]) rfl mB (pv3 .c (.t .g2) (.t .z)) rfl) ?_
 refine Y.es (aE rfl) rfl (esW rfl (.t (.s16 .g12)) (.t .z) .g1 gW rfl rfl) ?_
 refine Y.nt (Y.ret (Y.v (Y.j ?_)))
 refine Y.add (c:=aH dD [] [.slice none 0 0]) (fun w S=>aL w S none) ?_
 refine Y.i (cU rfl (.s16 .g12) lV .g1 gW) (.c .z (.c .g1 .n)) ?_
 exact⟨⟨9,t3,an,0,0,[]⟩,_,_,⟨by dsimp only;first | omega | decide,by dsimp only;first | omega | decide,by omega,by omega⟩,rfl,rfl⟩
 refine Y.seq (Y.region (Y.ql rfl (bU rfl (.t (.s16 .g3)) .c) (Y.as rfl .z (Y.nt ?_))))
 refine Y.u (.t .z) (fun a8=> ?_) (fun a8=> ?_)
 refine Y.seq (Y.region (Y.mv rfl (.s16 .g11) ?_))
 refine Y.el rfl (aQ (cs:= [.int .i64 10,.int .i64 11]) rfl eF (inz gI) (by decide) (pv2 .c .c) rfl rfl (by decide) rfl rfl) ?_
 rintro _ _ ⟨g41,rfl,rfl⟩
 refine Y.ad (c:=aH bK ([10,11]:(List Int)) [.slice (some ⟨g41,0,none⟩) 2 2]) (.c .z .n) (fun w S h=>fS (xs:=([10,11]:(List Int))) h rfl (by simp) (by omega) (by omega)) ?_
 refine Y.cl rfl rfl Tryz.func53 rfl rfl (aS (.t .g1) (.t .z)) (.c .g1 .n) (fun _ _ hs tr=>tQ (tr.ctx hcd) (tr.own .z) hs (by omega) (by simp)) ?_
 rintro _ _ ⟨ap,ac,rfl,rfl⟩
 refine Y.m (.c .n) ?_
 simp only [List.mem_cons,List.not_mem_nil,or_false] at ac
 refine Y.mv rfl (.s16 .g10) (Y.ql rfl (aW (cs:= [.int .i64 ap,.string t3,.string (⟨#[]⟩),.int .i64 0,.int .i64 0,.slice none 0 0]) rfl mB (pv2 (.t .g1) (.t .z)) rfl) ?_)
 refine Y.es (aE rfl) rfl (esW rfl (.t (.s16 .g15)) (.t .z) .g2 gW rfl rfl) ?_
 refine Y.nt (Y.ret (Y.v (Y.j ?_)))
 refine Y.add (c:=aH dD [] [.slice none 0 0]) (fun w S=>aL w S none) ?_
 refine Y.i (cU rfl (.s16 .g15) lV .g1 gW) (.c .z (.c .g1 .n)) ?_
 exact⟨⟨ap,t3,⟨#[]⟩,0,0,[]⟩,_,_,⟨by dsimp only;first | omega | decide,by dsimp only;first | omega | decide,by omega,by omega⟩,rfl,rfl⟩
 refine Y.skip (Y.ab (Y.g (Y.seq (Y.region (Y.mv rfl (.s16 .g7) (Y.mv rfl (.s16 .g12) ?_))))))
 refine Y.cl rfl rfl Tryz.func30 rfl rfl (aS (.t .z) .c) (.c .z .n) (fun _ _ hs tr=>mV (tr.ctx hcd) _ hs (by omega) (by omega)) ?_
 rintro _ _ ⟨aq,h0m45,h1m45,rfl,rfl⟩
 refine Y.m (.c .n) ?_
 refine Y.mv rfl (.s16 .g14) ?_
 refine Y.cl rfl rfl Tryz.func85 rfl rfl (bG (.t .z)) (.c .z .n) (fun _ _ hs tr=>aNo (tr.ctx hcd) hs (by omega)) ?_
 rintro _ _ ⟨ab,u46,ad,rfl⟩
 refine Y.m (.c (.c .n)) ?_
 refine Y.h (WS.a .z) ?_
 rintro⟨ae,af,rfl,ar,au,av⟩
 refine Y.ql rfl (aW (cs:= [.int .i64 3,.string t3,.string (⟨#[]⟩),.int .i64 aq,.int .i64 0,.slice ae ab.length af]) rfl mB (pv4 .c (.t .g4) (.t .g2) (.t .z)) rfl) ?_
 refine Y.es (aE rfl) rfl (esW rfl (.t (.s16 .g16)) (.t .z) .g2 gW rfl rfl) ?_
 refine Y.nt (Y.ret ?_)
 refine Y.i (cU rfl (.s16 .g16) lV .z gW) (.c .g1 (.c .g1 .n)) ?_
 exact⟨⟨3,t3,⟨#[]⟩,aq,0,ab⟩,_,_,⟨by dsimp only;first | omega | decide,by dsimp only;first | omega | decide,by omega,by omega⟩,rfl,rfl⟩

theorem aN8 {w0:World}{S0:Bs}{g0 e0 s0:Nat}{ac:List Value}{cd:List UInt8}{Ac:Option Addr}{cc:Nat} (hcd:dD.ro w0 (FF w0 S0) cd [.slice Ac cd.length cc]) {a:Int} (n:Int) (hs:cI [bV g0 e0 s0 1 ((.slice Ac cd.length cc) :: (.int .i64 a) :: ac)] w0 S0) (ha:0≤a∧a≤900000) (hn:0≤n∧n≤24):
    Calls Tryz.prog 29 #[.pointer (some ⟨g0,0,none⟩),.int .i64 n] w0 (aI w0 S0 (fun r l=>∃(f:DFs) (v0_ v1_:Value) (u:Int),(Jf f∧a≤u∧u≤a+800)∧r= .agg #[v0_,v1_]∧l= [aH bJ f.inodes [v0_],aH eH f.data [v1_],bV g0 e0 s0 1 (.slice Ac cd.length cc :: .int .i64 u :: ac)])):=by
 obtain⟨hlc,hmc,hbc⟩:=nA hcd
 refine Y.enter (N:=33) Tryz.func29 rfl rfl (by simp) [(0,.pointer (some ⟨g0,0,none⟩)),(1,.int .i64 n)] (by simp) hs ?_
 refine Y.seq (Y.region ?_)
 refine Y.el rfl (bB rfl rG rfl rfl) ?_
 rintro _ _ ⟨g2,rfl,rfl⟩
 refine Y.nt (Y.seq (Y.region ?_))
 refine Y.cl rfl rfl Tryz.func51 rfl rfl (aMd) .n (fun _ _ hs tr=>aOe) ?_
 rintro _ _ ⟨v3,v5,rfl,rfl⟩
 refine Y.m (.c (.c .n)) ?_
 refine Y.h (WS.a .z) ?_
 rintro⟨gl,gm,rfl,gn,go,gp⟩
 refine Y.h (WS.a .g1) ?_
 rintro⟨gq,gr,rfl,gs,gt,gu⟩
 refine Y.el rfl (bB rfl rG rfl rfl) ?_
 rintro _ _ ⟨g9,rfl,rfl⟩
 refine Y.es (aE rfl) rfl (esW rfl (.t .z) (.t .g1) .z bA rfl rfl) ?_
 refine Y.nt (Y.seq (Y.seq (Y.region (Y.ql rfl (aA rfl .c) (Y.nt (Y.block ?_))))))
 refine Y.ai (γ:=Nat×(Option Addr)×Nat×(Option Addr)×Nat×Int×DFs) (fun⟨k,ai,aj,ak,al,z,D⟩=> [(6,.int .i64 (k:Int)),(5,.pointer (some ⟨g9,0,none⟩)),(4,.pointer (some ⟨g2,0,none⟩)),(0,.pointer (some ⟨g0,0,none⟩)),(1,.int .i64 n)]) (fun⟨k,ai,aj,ak,al,z,D⟩=> [bV g9 27 2 1 [.slice ai D.inodes.length aj,.slice ak D.data.length al],aH bJ D.inodes [.slice ai D.inodes.length aj],aH eH D.data [.slice ak D.data.length al],bV g2 27 2 1 [.slice none 0 0,.slice none 0 0],bV g0 e0 s0 1 ((.slice Ac cd.length cc) :: (.int .i64 z) :: ac)]) (fun⟨k,ai,aj,ak,al,z,D⟩=>k≤3∧(a≤z∧z≤a+k)∧Jf D) (fun⟨k,ai,aj,ak,al,z,D⟩=>3 - k) (0,gl,gm,gq,gr,a,(⟨[⟨2,0,0,[],[]⟩],List.replicate 20 []⟩:DFs)) ⟨Nat.zero_le _,by omega,aL8⟩ (.c .z (.c .g1 (.c .g3 (.c .g4 (.c .g5 .n))))) (fun _ h=>h.sel (.c .z (.c .z (.c .z (.c .z (.c .z .n)))))) ?_
 rintro⟨k,ai,aj,ak,al,z,D⟩ ⟨hk,hz,hD⟩
 refine Y.seq (Y.seq (Y.region (Y.mv rfl .z (Y.ql rfl (dA rfl (.t .z) .c) (Y.nt ?_)))))
 refine Y.u (.t .z) (fun gv=> ?_) (fun gv=> ?_)
 refine Y.skip (Y.g ?_)
 refine Y.aw (γ:=(Option Addr)×Nat×(Option Addr)×Nat×Int×DFs) (fun⟨am,an,ao,ap,x,G⟩=> [(6,.int .i64 (k:Int)),(5,.pointer (some ⟨g9,0,none⟩)),(4,.pointer (some ⟨g2,0,none⟩)),(0,.pointer (some ⟨g0,0,none⟩)),(1,.int .i64 n)]) (fun⟨am,an,ao,ap,x,G⟩=> [bV g9 27 2 1 [.slice am G.inodes.length an,.slice ao G.data.length ap],aH bJ G.inodes [.slice am G.inodes.length an],aH eH G.data [.slice ao G.data.length ap],bV g2 27 2 1 [.slice none 0 0,.slice none 0 0],bV g0 e0 s0 1 ((.slice Ac cd.length cc) :: (.int .i64 x) :: ac)]) (fun⟨am,an,ao,ap,x,G⟩=>x=z+1∧Jf G) ?_ ?_
 refine Y.block ?_
 refine Y.sel (.c .g1 (.c .g1 (.c .g2 (.c .z (.c .z .n))))) ?_
 refine Y.dr .g3 11 fR ?_
 refine Y.sc [(0,true),(1,true),(5,true)] (by kernel_rfl) ?_
 refine Y.dk rfl rfl .g3 (qW rfl bX (.t .g3) .z bA) (Y.dm rfl rfl .g3 .g6 (Y.dm rfl rfl .g3 .g4 (Y.w ?_)))
 refine Y.ar (i:=2) (j:=4) (by kernel_rfl) ?_ ?_
 refine Y.e (aC rfl rfl) rfl (by decide) rfl (aQ (cs:= [.int .i64 2,.int .i64 1]) rfl eF (inz gI) (by decide) (pv2 .c .c) rfl rfl (by decide) rfl rfl) ?_
 rintro _ _ ⟨g11,rfl,rfl⟩
 refine Y.sk .g4 ?_
 refine Y.w ?_
 refine Y.sc [] (by kernel_rfl) ?_
 refine Y.w ?_
 refine Y.ar (i:=3) (j:=4) (by kernel_rfl) ?_ ?_
 refine Y.ad (c:=aH bK ([2,1]:(List Int)) [.slice (some ⟨g11,0,none⟩) 2 2]) (.c .z .n) (fun w S h=>fS (xs:=([2,1]:(List Int))) h rfl (by simp) (by omega) (by omega)) ?_
 refine Y.call (aC rfl rfl) rfl (by decide) rfl (bE rfl Tryz.func53 rfl rfl (aS (.t .g2) (.t .z))) (.c .g3 .n) (fun _ _ hs tr=>tQ (tr.ctx hcd) (tr.own .z) hs (by omega) (by simp)) ?_
 rintro _ _ ⟨ea,b4,rfl,rfl⟩
 refine Y.m (.c .n) ?_
 simp only [List.mem_cons,List.not_mem_nil,or_false] at b4
 refine Y.sk .g4 ?_
 refine Y.w ?_
 refine Y.sc [(4,false),(6,true),(7,false),(8,true),(9,false),(10,true),(11,false)] (by kernel_rfl) ?_
 refine Y.e (aC rfl rfl) rfl (by decide) rfl (aQ (cs:= [.string (⟨#[47,97]⟩),.string (⟨#[47,98]⟩),.string (⟨#[47,99]⟩)]) rfl eQ (inz jK) (by decide) (pv3 .c .c .c) rfl rfl (by decide) rfl rfl) ?_
 rintro _ _ ⟨g14,rfl,rfl⟩
 refine Y.sk .g5 ?_
 refine Y.ad (c:=aH cT ([⟨#[47,97]⟩,⟨#[47,98]⟩,⟨#[47,99]⟩]:(List ByteArray)) [.slice (some ⟨g14,0,none⟩) 3 3]) (.c .z .n) (fun w S h=>fS (xs:=([⟨#[47,97]⟩,⟨#[47,98]⟩,⟨#[47,99]⟩]:(List ByteArray))) h rfl (by decide) (by omega) (by omega)) ?_
 refine Y.dk rfl rfl .g5 (aB (j:=k) rfl eQ mU (.t .z) (.t .g3) rfl (by first | omega |(simp <;> omega))) ?_
 obtain⟨eb,b5⟩:=aK (xs:=([⟨#[47,97]⟩,⟨#[47,98]⟩,⟨#[47,99]⟩]:(List ByteArray))) (j:=k) (by first | omega |(simp <;> omega))
 refine Y.q (aC rfl rfl) rfl (by decide) rfl (aM rfl iH (.t .z) (WS.m .z b5)) ?_
 refine Y.sk .g5 ?_
 refine Y.dk rfl rfl .g5 (aW (cs:= [.int .i64 ea,.string eb,.string (⟨#[]⟩),.int .i64 0,.int .i64 0,.slice none 0 0]) rfl mB (pv2 (.t .g3) (.t .z)) rfl) ?_
 refine Y.call (aC rfl rfl) rfl (by decide) rfl (bE rfl Tryz.func52 rfl rfl (eL (.t .g8) (.t .z) .c)) .n (fun _ _ hs tr=>aDl (aJ D (tr.own .g3) (tr.own .g4)) (jI (⟨ea,eb,⟨#[]⟩,0,0,[]⟩:oD) lF (by first | assumption | omega | exact Nat.zero_le _ | decide |(dsimp only;exact gM _ (List.mem_of_getElem? (by assumption)))) (by first | assumption | omega | exact Nat.zero_le _ | decide |(dsimp only;exact gM _ (List.mem_of_getElem? (by assumption))))) lF (by assumption)) ?_
 rintro _ _ ⟨ad,b6,hg,hh,hi,hj,rfl,rfl⟩
 refine Y.m (.c (.c (.c (.c .n)))) ?_
 refine Y.h (WS.a .z) ?_
 rintro⟨b7,b8,rfl,ec,ed,ee⟩
 refine Y.h (WS.a .g1) ?_
 rintro⟨b9,ca,rfl,ef,eg,eh⟩
 refine Y.h (WS.a .g2) ?_
 rintro⟨a5,a6,rfl,ei,ej,ek⟩
 refine Y.h (WS.a .g3) ?_
 rintro⟨a7,a8,rfl,em,en,eo⟩
 refine Y.sk .g9 ?_
 refine Y.dk rfl rfl .g9 (kK rfl (.t .z) (fun w=>pU w (.int .i64 ad.code) (.int .i64 ad.reply) (.int .i64 ad.val) (.slice b7 ad.bytes.length b8) (.slice b9 ad.names.length ca) (.slice a5 ad.fs.inodes.length a6) (.slice a7 ad.fs.data.length a8))) ?_
 refine Y.es (aC rfl rfl) rfl (esW rfl (.t .g14) (.t .z) .g9 bA rfl rfl) ?_
 refine Y.sl rfl ?_
 refine Y.w ?_
 refine Y.af (by kernel_rfl) ?_
 refine Y.ab ?_
 exact Y.ao (a5,a6,a7,a8,(z+1),ad.fs) ⟨by omega,by assumption⟩ (.c .g13 (.c .g14 (.c .g15 (.c .g16 (.c (.s16 .g1) .n))))) (fun _ h=>h.sel (.c .z (.c .g2 (.c .g2 (.c .g7 (.c .g3 .n))))))
 refine Y.e (aC rfl rfl) rfl (by decide) rfl (aQ (cs:= [.string (⟨#[47,97]⟩),.string (⟨#[47,98]⟩),.string (⟨#[47,99]⟩)]) rfl eQ (inz jK) (by decide) (pv3 .c .c .c) rfl rfl (by decide) rfl rfl) ?_
 rintro _ _ ⟨g30,rfl,rfl⟩
 refine Y.sk .g5 ?_
 refine Y.w ?_
 refine Y.sc [(6,true)] (by kernel_rfl) ?_
 refine Y.ad (c:=aH cT ([⟨#[47,97]⟩,⟨#[47,98]⟩,⟨#[47,99]⟩]:(List ByteArray)) [.slice (some ⟨g30,0,none⟩) 3 3]) (.c .z .n) (fun w S h=>fS (xs:=([⟨#[47,97]⟩,⟨#[47,98]⟩,⟨#[47,99]⟩]:(List ByteArray))) h rfl (by decide) (by omega) (by omega)) ?_
 refine Y.dk rfl rfl .g5 (aB (j:=k) rfl eQ mU (.t .z) (.t .g2) rfl (by first | omega |(simp <;> omega))) ?_
 refine Y.w ?_
 refine Y.ar (i:=3) (j:=7) (by kernel_rfl) ?_ ?_
 refine Y.ad (c:=aH bK ([2,1]:(List Int)) [.slice (some ⟨g11,0,none⟩) 2 2]) (.c .g1 .n) (fun w S h=>fS (xs:=([2,1]:(List Int))) h rfl (by simp) (by omega) (by omega)) ?_
 refine Y.call (aC rfl rfl) rfl (by decide) rfl (bE rfl Tryz.func53 rfl rfl (aS (.t .g4) (.t .g2))) (.c .g4 .n) (fun _ _ hs tr=>tQ (tr.ctx hcd) (tr.own .z) hs (by omega) (by simp)) ?_
 rintro _ _ ⟨ep,cb,rfl,rfl⟩
 refine Y.m (.c .n) ?_
 simp only [List.mem_cons,List.not_mem_nil,or_false] at cb
 refine Y.sk .g5 ?_
 refine Y.w ?_
 refine Y.sc [(7,false),(8,true),(9,false),(10,true),(11,false)] (by kernel_rfl) ?_
 obtain⟨et,ce⟩:=aK (xs:=([⟨#[47,97]⟩,⟨#[47,98]⟩,⟨#[47,99]⟩]:(List ByteArray))) (j:=k) (by first | omega |(simp <;> omega))
 refine Y.q (aC rfl rfl) rfl (by decide) rfl (aM rfl iH (.t .g1) (WS.m .g2 ce)) ?_
 refine Y.sk .g5 ?_
 refine Y.dk rfl rfl .g5 (aW (cs:= [.int .i64 ep,.string et,.string (⟨#[]⟩),.int .i64 0,.int .i64 0,.slice none 0 0]) rfl mB (pv2 (.t .g1) (.t .z)) rfl) ?_
 refine Y.call (aC rfl rfl) rfl (by decide) rfl (bE rfl Tryz.func52 rfl rfl (eL (.t .g8) (.t .z) .c)) .n (fun _ _ hs tr=>aDl (aJ D (tr.own .g3) (tr.own .g4)) (jI (⟨ep,et,⟨#[]⟩,0,0,[]⟩:oD) lF (by first | assumption | omega | exact Nat.zero_le _ | decide |(dsimp only;exact gM _ (List.mem_of_getElem? (by assumption)))) (by first | assumption | omega | exact Nat.zero_le _ | decide |(dsimp only;exact gM _ (List.mem_of_getElem? (by assumption))))) lF (by assumption)) ?_
 rintro _ _ ⟨ae,cf,hl,ho,hp,hq,rfl,rfl⟩
 refine Y.m (.c (.c (.c (.c .n)))) ?_
 refine Y.h (WS.a .z) ?_
 rintro⟨cg,ch,rfl,eu,ev,ew⟩
 refine Y.h (WS.a .g1) ?_
 rintro⟨ci,cj,rfl,ey,ez,e1⟩
 refine Y.h (WS.a .g2) ?_
 rintro⟨a9,ba,rfl,e2,e3,e4⟩
 refine Y.h (WS.a .g3) ?_
 rintro⟨bb,bc,rfl,e5,e7,e8⟩
 refine Y.sk .g9 ?_
 refine Y.dk rfl rfl .g9 (kK rfl (.t .z) (fun w=>pU w (.int .i64 ae.code) (.int .i64 ae.reply) (.int .i64 ae.val) (.slice cg ae.bytes.length ch) (.slice ci ae.names.length cj) (.slice a9 ae.fs.inodes.length ba) (.slice bb ae.fs.data.length bc))) ?_
 refine Y.es (aC rfl rfl) rfl (esW rfl (.t .g14) (.t .z) .g9 bA rfl rfl) ?_
 refine Y.sl rfl ?_
 refine Y.w ?_
 refine Y.af (by kernel_rfl) ?_
 refine Y.ab ?_
 exact Y.ao (a9,ba,bb,bc,(z+1),ae.fs) ⟨by omega,by assumption⟩ (.c .g13 (.c .g14 (.c .g15 (.c .g16 (.c (.s16 .g1) .n))))) (fun _ h=>h.sel (.c .z (.c .g2 (.c .g2 (.c .g7 (.c .g2 .n))))))
 obtain⟨e9,ck⟩:=aK (xs:=([⟨#[47,97]⟩,⟨#[47,98]⟩,⟨#[47,99]⟩]:(List ByteArray))) (j:=k) (by first | omega |(simp <;> omega))
 refine Y.q (aC rfl rfl) rfl (by decide) rfl (aM rfl iH (.t .z) (WS.m .z ck)) ?_
 refine Y.sk .g5 ?_
 refine Y.w ?_
 refine Y.sc [(3,false),(8,true),(9,false),(10,true),(11,false)] (by kernel_rfl) ?_
 refine Y.ad (c:=aH bK ([2,1]:(List Int)) [.slice (some ⟨g11,0,none⟩) 2 2]) (.c .g1 .n) (fun w S h=>fS (xs:=([2,1]:(List Int))) h rfl (by simp) (by omega) (by omega)) ?_
 refine Y.call (aC rfl rfl) rfl (by decide) rfl (bE rfl Tryz.func53 rfl rfl (aS (.t .g5) (.t .g3))) (.c .g4 .n) (fun _ _ hs tr=>tQ (tr.ctx hcd) (tr.own .z) hs (by omega) (by simp)) ?_
 rintro _ _ ⟨fb,cm,rfl,rfl⟩
 refine Y.m (.c .n) ?_
 simp only [List.mem_cons,List.not_mem_nil,or_false] at cm
 refine Y.sk .g5 ?_
 refine Y.dk rfl rfl .g5 (aW (cs:= [.int .i64 fb,.string e9,.string (⟨#[]⟩),.int .i64 0,.int .i64 0,.slice none 0 0]) rfl mB (pv2 (.t .z) (.t .g1)) rfl) ?_
 refine Y.call (aC rfl rfl) rfl (by decide) rfl (bE rfl Tryz.func52 rfl rfl (eL (.t .g8) (.t .z) .c)) .n (fun _ _ hs tr=>aDl (aJ D (tr.own .g3) (tr.own .g4)) (jI (⟨fb,e9,⟨#[]⟩,0,0,[]⟩:oD) lF (by first | assumption | omega | exact Nat.zero_le _ | decide |(dsimp only;exact gM _ (List.mem_of_getElem? (by assumption)))) (by first | assumption | omega | exact Nat.zero_le _ | decide |(dsimp only;exact gM _ (List.mem_of_getElem? (by assumption))))) lF (by assumption)) ?_
 rintro _ _ ⟨af,cn,hr,ht,hu,hv,rfl,rfl⟩
 refine Y.m (.c (.c (.c (.c .n)))) ?_
 refine Y.h (WS.a .z) ?_
 rintro⟨co,cp,rfl,fc,fd,fe⟩
 refine Y.h (WS.a .g1) ?_
 rintro⟨cq,cr,rfl,ff,fg,fh⟩
 refine Y.h (WS.a .g2) ?_
 rintro⟨bd,be,rfl,fi,fj,fk⟩
 refine Y.h (WS.a .g3) ?_
 rintro⟨bf,bg,rfl,fl,fm,fn⟩
 refine Y.sk .g9 ?_
 refine Y.dk rfl rfl .g9 (kK rfl (.t .z) (fun w=>pU w (.int .i64 af.code) (.int .i64 af.reply) (.int .i64 af.val) (.slice co af.bytes.length cp) (.slice cq af.names.length cr) (.slice bd af.fs.inodes.length be) (.slice bf af.fs.data.length bg))) ?_
 refine Y.es (aC rfl rfl) rfl (esW rfl (.t .g14) (.t .z) .g9 bA rfl rfl) ?_
 refine Y.sl rfl ?_
 refine Y.w ?_
 refine Y.af (by kernel_rfl) ?_
 refine Y.ab ?_
 exact Y.ao (bd,be,bf,bg,(z+1),af.fs) ⟨by omega,by assumption⟩ (.c .g13 (.c .g14 (.c .g15 (.c .g16 (.c (.s16 .g1) .n))))) (fun _ h=>h.sel (.c .z (.c .g2 (.c .g2 (.c .g7 (.c .g2 .n))))))
 refine Y.e (aC rfl rfl) rfl (by decide) rfl (aQ (cs:= [.string (⟨#[47,97]⟩),.string (⟨#[47,98]⟩),.string (⟨#[47,99]⟩)]) rfl eQ (inz jK) (by decide) (pv3 .c .c .c) rfl rfl (by decide) rfl rfl) ?_
 rintro _ _ ⟨g64,rfl,rfl⟩
 refine Y.sk .g4 ?_
 refine Y.w ?_
 refine Y.sc [(6,true)] (by kernel_rfl) ?_
 refine Y.ad (c:=aH cT ([⟨#[47,97]⟩,⟨#[47,98]⟩,⟨#[47,99]⟩]:(List ByteArray)) [.slice (some ⟨g64,0,none⟩) 3 3]) (.c .z .n) (fun w S h=>fS (xs:=([⟨#[47,97]⟩,⟨#[47,98]⟩,⟨#[47,99]⟩]:(List ByteArray))) h rfl (by decide) (by omega) (by omega)) ?_
 refine Y.dk rfl rfl .g4 (aB (j:=k) rfl eQ mU (.t .z) (.t .g1) rfl (by first | omega |(simp <;> omega))) ?_
 refine Y.w ?_
 refine Y.ar (i:=2) (j:=7) (by kernel_rfl) ?_ ?_
 refine Y.e (aC rfl rfl) rfl (by decide) rfl (aQ (cs:= [.int .i64 2,.int .i64 1]) rfl eF (inz gI) (by decide) (pv2 .c .c) rfl rfl (by decide) rfl rfl) ?_
 rintro _ _ ⟨g66,rfl,rfl⟩
 refine Y.sk .g5 ?_
 refine Y.w ?_
 refine Y.sc [] (by kernel_rfl) ?_
 refine Y.w ?_
 refine Y.ar (i:=3) (j:=7) (by kernel_rfl) ?_ ?_
 refine Y.ad (c:=aH bK ([2,1]:(List Int)) [.slice (some ⟨g66,0,none⟩) 2 2]) (.c .z .n) (fun w S h=>fS (xs:=([2,1]:(List Int))) h rfl (by simp) (by omega) (by omega)) ?_
 refine Y.call (aC rfl rfl) rfl (by decide) rfl (bE rfl Tryz.func53 rfl rfl (aS (.t .g4) (.t .z))) (.c .g4 .n) (fun _ _ hs tr=>tQ (tr.ctx hcd) (tr.own .z) hs (by omega) (by simp)) ?_
 rintro _ _ ⟨fo,ct,rfl,rfl⟩
 refine Y.m (.c .n) ?_
 simp only [List.mem_cons,List.not_mem_nil,or_false] at ct
 refine Y.sk .g5 ?_
 refine Y.w ?_
 refine Y.sc [(7,false),(8,true),(9,false),(10,true),(11,false)] (by kernel_rfl) ?_
 obtain⟨fp,cu⟩:=aK (xs:=([⟨#[47,97]⟩,⟨#[47,98]⟩,⟨#[47,99]⟩]:(List ByteArray))) (j:=k) (by first | omega |(simp <;> omega))
 refine Y.q (aC rfl rfl) rfl (by decide) rfl (aM rfl iH (.t .g2) (WS.m .g2 cu)) ?_
 refine Y.sk .g5 ?_
 refine Y.dk rfl rfl .g5 (aW (cs:= [.int .i64 fo,.string fp,.string (⟨#[]⟩),.int .i64 0,.int .i64 0,.slice none 0 0]) rfl mB (pv2 (.t .g1) (.t .z)) rfl) ?_
 refine Y.call (aC rfl rfl) rfl (by decide) rfl (bE rfl Tryz.func52 rfl rfl (eL (.t .g8) (.t .z) .c)) .n (fun _ _ hs tr=>aDl (aJ D (tr.own .g3) (tr.own .g4)) (jI (⟨fo,fp,⟨#[]⟩,0,0,[]⟩:oD) lF (by first | assumption | omega | exact Nat.zero_le _ | decide |(dsimp only;exact gM _ (List.mem_of_getElem? (by assumption)))) (by first | assumption | omega | exact Nat.zero_le _ | decide |(dsimp only;exact gM _ (List.mem_of_getElem? (by assumption))))) lF (by assumption)) ?_
 rintro _ _ ⟨ag,cv,hw,h0,h1,h2,rfl,rfl⟩
 refine Y.m (.c (.c (.c (.c .n)))) ?_
 refine Y.h (WS.a .z) ?_
 rintro⟨cw,cx,rfl,fq,fr,ft⟩
 refine Y.h (WS.a .g1) ?_
 rintro⟨cy,cz,rfl,fu,fv,fw⟩
 refine Y.h (WS.a .g2) ?_
 rintro⟨bh,bi,rfl,fx,fy,f0⟩
 refine Y.h (WS.a .g3) ?_
 rintro⟨bj,bk,rfl,f1,f2,f3⟩
 refine Y.sk .g9 ?_
 refine Y.dk rfl rfl .g9 (kK rfl (.t .z) (fun w=>pU w (.int .i64 ag.code) (.int .i64 ag.reply) (.int .i64 ag.val) (.slice cw ag.bytes.length cx) (.slice cy ag.names.length cz) (.slice bh ag.fs.inodes.length bi) (.slice bj ag.fs.data.length bk))) ?_
 refine Y.es (aC rfl rfl) rfl (esW rfl (.t .g14) (.t .z) .g9 bA rfl rfl) ?_
 refine Y.sl rfl ?_
 refine Y.w ?_
 refine Y.af (by kernel_rfl) ?_
 refine Y.ab ?_
 exact Y.ao (bh,bi,bj,bk,(z+1),ag.fs) ⟨by omega,by assumption⟩ (.c .g13 (.c .g14 (.c .g15 (.c .g16 (.c (.s16 .g1) .n))))) (fun _ h=>h.sel (.c .z (.c .g2 (.c .g2 (.c .g7 (.c .g2 .n))))))
 obtain⟨f4,c0⟩:=aK (xs:=([⟨#[47,97]⟩,⟨#[47,98]⟩,⟨#[47,99]⟩]:(List ByteArray))) (j:=k) (by first | omega |(simp <;> omega))
 refine Y.q (aC rfl rfl) rfl (by decide) rfl (aM rfl iH (.t .g1) (WS.m .g1 c0)) ?_
 refine Y.sk .g5 ?_
 refine Y.w ?_
 refine Y.sc [(3,false),(8,true),(9,false),(10,true),(11,false)] (by kernel_rfl) ?_
 refine Y.ad (c:=aH bK ([2,1]:(List Int)) [.slice (some ⟨g66,0,none⟩) 2 2]) (.c .z .n) (fun w S h=>fS (xs:=([2,1]:(List Int))) h rfl (by simp) (by omega) (by omega)) ?_
 refine Y.call (aC rfl rfl) rfl (by decide) rfl (bE rfl Tryz.func53 rfl rfl (aS (.t .g5) (.t .g1))) (.c .g4 .n) (fun _ _ hs tr=>tQ (tr.ctx hcd) (tr.own .z) hs (by omega) (by simp)) ?_
 rintro _ _ ⟨f5,c1,rfl,rfl⟩
 refine Y.m (.c .n) ?_
 simp only [List.mem_cons,List.not_mem_nil,or_false] at c1
 refine Y.sk .g5 ?_
 refine Y.dk rfl rfl .g5 (aW (cs:= [.int .i64 f5,.string f4,.string (⟨#[]⟩),.int .i64 0,.int .i64 0,.slice none 0 0]) rfl mB (pv2 (.t .z) (.t .g1)) rfl) ?_
 refine Y.call (aC rfl rfl) rfl (by decide) rfl (bE rfl Tryz.func52 rfl rfl (eL (.t .g8) (.t .z) .c)) .n (fun _ _ hs tr=>aDl (aJ D (tr.own .g3) (tr.own .g4)) (jI (⟨f5,f4,⟨#[]⟩,0,0,[]⟩:oD) lF (by first | assumption | omega | exact Nat.zero_le _ | decide |(dsimp only;exact gM _ (List.mem_of_getElem? (by assumption)))) (by first | assumption | omega | exact Nat.zero_le _ | decide |(dsimp only;exact gM _ (List.mem_of_getElem? (by assumption))))) lF (by assumption)) ?_
 rintro _ _ ⟨ah,c2,h3,h4,h5,h6,rfl,rfl⟩
 refine Y.m (.c (.c (.c (.c .n)))) ?_
 refine Y.h (WS.a .z) ?_
 rintro⟨c3,c4,rfl,f6,f7,f8⟩
 refine Y.h (WS.a .g1) ?_
 rintro⟨c5,c6,rfl,f9,ga,gb⟩
 refine Y.h (WS.a .g2) ?_
 rintro⟨bm,bn,rfl,gc,gd,ge⟩
 refine Y.h (WS.a .g3) ?_
 rintro⟨bo,bp,rfl,gf,gg,gh⟩
 refine Y.sk .g9 ?_
 refine Y.dk rfl rfl .g9 (kK rfl (.t .z) (fun w=>pU w (.int .i64 ah.code) (.int .i64 ah.reply) (.int .i64 ah.val) (.slice c3 ah.bytes.length c4) (.slice c5 ah.names.length c6) (.slice bm ah.fs.inodes.length bn) (.slice bo ah.fs.data.length bp))) ?_
 refine Y.es (aC rfl rfl) rfl (esW rfl (.t .g14) (.t .z) .g9 bA rfl rfl) ?_
 refine Y.sl rfl ?_
 refine Y.w ?_
 refine Y.af (by kernel_rfl) ?_
 refine Y.ab ?_
 exact Y.ao (bm,bn,bo,bp,(z+1),ah.fs) ⟨by omega,by assumption⟩ (.c .g13 (.c .g14 (.c .g15 (.c .g16 (.c (.s16 .g1) .n))))) (fun _ h=>h.sel (.c .z (.c .g2 (.c .g2 (.c .g7 (.c .g2 .n))))))
 obtain⟨gi,c7⟩:=aK (xs:=([⟨#[47,97]⟩,⟨#[47,98]⟩,⟨#[47,99]⟩]:(List ByteArray))) (j:=k) (by first | omega |(simp <;> omega))
 refine Y.q (aC rfl rfl) rfl (by decide) rfl (aM rfl iH (.t .z) (WS.m .z c7)) ?_
 refine Y.sk .g4 ?_
 refine Y.w ?_
 refine Y.sc [(2,false),(3,false),(8,true),(9,false),(10,true),(11,false)] (by kernel_rfl) ?_
 refine Y.e (aC rfl rfl) rfl (by decide) rfl (aQ (cs:= [.int .i64 2,.int .i64 1]) rfl eF (inz gI) (by decide) (pv2 .c .c) rfl rfl (by decide) rfl rfl) ?_
 rintro _ _ ⟨g100,rfl,rfl⟩
 refine Y.sk .g5 ?_
 refine Y.ad (c:=aH bK ([2,1]:(List Int)) [.slice (some ⟨g100,0,none⟩) 2 2]) (.c .z .n) (fun w S h=>fS (xs:=([2,1]:(List Int))) h rfl (by simp) (by omega) (by omega)) ?_
 refine Y.call (aC rfl rfl) rfl (by decide) rfl (bE rfl Tryz.func53 rfl rfl (aS (.t .g5) (.t .z))) (.c .g4 .n) (fun _ _ hs tr=>tQ (tr.ctx hcd) (tr.own .z) hs (by omega) (by simp)) ?_
 rintro _ _ ⟨bq,br,rfl,rfl⟩
 refine Y.m (.c .n) ?_
 simp only [List.mem_cons,List.not_mem_nil,or_false] at br
 refine Y.sk .g5 ?_
 refine Y.dk rfl rfl .g5 (aW (cs:= [.int .i64 bq,.string gi,.string (⟨#[]⟩),.int .i64 0,.int .i64 0,.slice none 0 0]) rfl mB (pv2 (.t .z) (.t .g2)) rfl) ?_
 refine Y.call (aC rfl rfl) rfl (by decide) rfl (bE rfl Tryz.func52 rfl rfl (eL (.t .g8) (.t .z) .c)) .n (fun _ _ hs tr=>aDl (aJ D (tr.own .g3) (tr.own .g4)) (jI (⟨bq,gi,⟨#[]⟩,0,0,[]⟩:oD) lF (by first | assumption | omega | exact Nat.zero_le _ | decide |(dsimp only;exact gM _ (List.mem_of_getElem? (by assumption)))) (by first | assumption | omega | exact Nat.zero_le _ | decide |(dsimp only;exact gM _ (List.mem_of_getElem? (by assumption))))) lF (by assumption)) ?_
 rintro _ _ ⟨aa,b1,gw,gx,gy,gz,rfl,rfl⟩
 refine Y.m (.c (.c (.c (.c .n)))) ?_
 refine Y.h (WS.a .z) ?_
 rintro⟨bs,bt,rfl,c8,c9,da⟩
 refine Y.h (WS.a .g1) ?_
 rintro⟨bu,bv,rfl,db,dc,dd⟩
 refine Y.h (WS.a .g2) ?_
 rintro⟨ax,ay,rfl,dg,dh,di⟩
 refine Y.h (WS.a .g3) ?_
 rintro⟨az,a0,rfl,dj,dp,ds⟩
 refine Y.sk .g9 ?_
 refine Y.dk rfl rfl .g9 (kK rfl (.t .z) (fun w=>pU w (.int .i64 aa.code) (.int .i64 aa.reply) (.int .i64 aa.val) (.slice bs aa.bytes.length bt) (.slice bu aa.names.length bv) (.slice ax aa.fs.inodes.length ay) (.slice az aa.fs.data.length a0))) ?_
 refine Y.es (aC rfl rfl) rfl (esW rfl (.t .g14) (.t .z) .g9 bA rfl rfl) ?_
 refine Y.sl rfl ?_
 refine Y.w ?_
 refine Y.af (by kernel_rfl) ?_
 refine Y.ab ?_
 exact Y.ao (ax,ay,az,a0,(z+1),aa.fs) ⟨by omega,by assumption⟩ (.c .g13 (.c .g14 (.c .g15 (.c .g16 (.c (.s16 .g1) .n))))) (fun _ h=>h.sel (.c .z (.c .g2 (.c .g2 (.c .g7 (.c .g2 .n))))))
 rintro⟨am,an,ao,ap,x,G⟩ ⟨hx,hG⟩
 refine Y.region (Y.mv rfl .z ?_)
 refine Y.ql rfl (bN (c:=((k+1:Nat):Int)) rfl (.t .z) .c (wr (by omega) (by omega) (by omega))) ?_
 refine Y.er .g2 (Y.as rfl .z (Y.nil ?_))
 refine Y.ae ((k+1),am,an,ao,ap,x,G) ⟨by omega,by omega,by assumption⟩ (by first | omega |(dsimp only;omega)) (.c .z (.c .g3 (.c .g4 (.c .g5 (.c .g6 .n))))) (fun _ h=>h.sel (.c .z (.c .z (.c .z (.c .z (.c .z .n))))))
 refine Y.exit (Y.y (Y.y (Y.ag (Y.g (Y.seq (Y.block ?_))))))
 refine Y.ai (γ:=(Option Addr)×Nat×(Option Addr)×Nat×Int×Int×DFs) (fun⟨aq,ar,au,av,m,y,E⟩=> [(5,.pointer (some ⟨g9,0,none⟩)),(4,.pointer (some ⟨g2,0,none⟩)),(0,.pointer (some ⟨g0,0,none⟩)),(1,.int .i64 m)]) (fun⟨aq,ar,au,av,m,y,E⟩=> [bV g9 27 2 1 [.slice aq E.inodes.length ar,.slice au E.data.length av],aH bJ E.inodes [.slice aq E.inodes.length ar],aH eH E.data [.slice au E.data.length av],bV g2 27 2 1 [.slice none 0 0,.slice none 0 0],bV g0 e0 s0 1 ((.slice Ac cd.length cc) :: (.int .i64 y) :: ac)]) (fun⟨aq,ar,au,av,m,y,E⟩=>(0≤m∧m≤n)∧(a≤y∧y+30 * m≤a+3+30 * n)∧Jf E) (fun⟨aq,ar,au,av,m,y,E⟩=>m.toNat) (ai,aj,ak,al,n,z,D) ⟨by omega,by omega,by assumption⟩ (.c .g3 (.c .g4 (.c .g5 (.c .g6 .n)))) (fun _ h=>h.sel (.c .z (.c .z (.c .z (.c .z (.c .z .n)))))) ?_
 rintro⟨aq,ar,au,av,m,y,E⟩ ⟨hm,hy,hE⟩
 refine Y.seq (Y.seq (Y.region (Y.mv rfl .g3 (Y.ql rfl (fI rfl (.t .z) .c) (Y.nt ?_)))))
 refine Y.u (.t .z) (fun dt=> ?_) (fun dt=> ?_)
 refine Y.skip (Y.g (Y.seq (Y.block ?_)))
 refine Y.sel (.c .g1 (.c .g1 (.c .g2 (.c .z (.c .z .n))))) ?_
 refine Y.dr .g3 5 fR ?_
 refine Y.sc [(0,true),(1,true),(2,false),(3,false),(4,true),(5,false)] (by kernel_rfl) ?_
 refine Y.dk rfl rfl .g3 (qW rfl bX (.t .g2) .z bA) (Y.dm rfl rfl .g3 .g5 ?_)
 refine Y.call (aC rfl rfl) rfl (by decide) rfl (bE rfl Tryz.func54 rfl rfl (bG (.t .z))) (.c .g2 .n) (fun _ _ hs tr=>aN7 (tr.ctx hcd) hs (by omega)) ?_
 rintro _ _ ⟨aw,hb,du,b2,rfl,rfl⟩
 refine Y.m (.c (.c .n)) ?_
 refine Y.h (WS.a .z) ?_
 rintro⟨gj,gk,rfl,dv,dw,dx⟩
 have hp9ca118:aw.path.size≤140737488351232:=by omega
 have ht9ca118:aw.to.size≤140737488351232:=by omega
 refine Y.sk .g4 ?_
 refine Y.call (aC rfl rfl) rfl (by decide) rfl (bE rfl Tryz.func52 rfl rfl (eL (.t .g2) (.t .z) .c)) .n (fun _ _ hs tr=>aDl (aJ E (tr.own .g2) (tr.own .g3)) (jI aw (tr.own .z) (by first | assumption | omega | exact Nat.zero_le _ | decide |(dsimp only;exact gM _ (List.mem_of_getElem? (by assumption)))) (by first | assumption | omega | exact Nat.zero_le _ | decide |(dsimp only;exact gM _ (List.mem_of_getElem? (by assumption))))) lF (by assumption)) ?_
 rintro _ _ ⟨ab,b3,hc,hd,he,hf,rfl,rfl⟩
 refine Y.m (.c (.c (.c (.c .n)))) ?_
 refine Y.h (WS.a .z) ?_
 rintro⟨bw,bx,rfl,dy,dz,d0⟩
 refine Y.h (WS.a .g1) ?_
 rintro⟨bz,b0,rfl,d1,d2,d3⟩
 refine Y.h (WS.a .g2) ?_
 rintro⟨a1,a2,rfl,d4,d5,d6⟩
 refine Y.h (WS.a .g3) ?_
 rintro⟨a3,a4,rfl,d7,d8,d9⟩
 refine Y.sk .g8 ?_
 refine Y.dk rfl rfl .g8 (kK rfl (.t .z) (fun w=>pU w (.int .i64 ab.code) (.int .i64 ab.reply) (.int .i64 ab.val) (.slice bw ab.bytes.length bx) (.slice bz ab.names.length b0) (.slice a1 ab.fs.inodes.length a2) (.slice a3 ab.fs.data.length a4))) ?_
 refine Y.es (aC rfl rfl) rfl (esW rfl (.t .g7) (.t .z) .g8 bA rfl rfl) ?_
 refine Y.sl rfl ?_
 refine Y.w ?_
 refine Y.af (by kernel_rfl) ?_
 refine Y.ab (Y.g (Y.region (Y.mv rfl .g10 ?_)))
 refine Y.ql rfl (iT (c:=m - 1) rfl (.t .z) .c (wr (by omega) (by omega) (by omega))) ?_
 refine Y.er .g12 (Y.as rfl .z (Y.nil ?_))
 refine Y.ae (a1,a2,a3,a4,m - 1,du,ab.fs) ⟨by omega,by omega,by assumption⟩ (by first | omega |(dsimp only;omega)) (.c .g10 (.c .g11 (.c .g12 (.c .z .n)))) (fun _ h=>h.sel (.c .z (.c .g2 (.c .g2 (.c .g6 (.c .g3 .n))))))
 refine Y.exit (Y.y (Y.y (Y.ag (Y.g (Y.seq (Y.region (Y.ql rfl (qW rfl bX (.t .g2) .z bA) ?_)))))))
 refine Y.es (aE rfl) rfl (esW rfl (.t .g4) (.t .z) .g3 bA rfl rfl) ?_
 refine Y.nt (Y.ret ?_)
 refine Y.i (cU rfl .g4 bX .z bA) (.c .g2 (.c .g2 (.c .g2 .n))) ?_
 exact⟨⟨E.inodes,E.data⟩,_,_,y,⟨by assumption,by omega,by omega⟩,rfl,rfl⟩

end Go.Proofs.YtmejbfmhaoilmaaGreatDoor

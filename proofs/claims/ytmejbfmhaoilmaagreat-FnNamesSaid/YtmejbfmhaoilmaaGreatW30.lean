/- What is proved: contracts of functions, one a function. No condition. -/
import Derived.Test.YtmejbfmhaoilmaaGreatBase1
import Derived.Test.YtmejbfmhaoilmaaGreatW24
namespace Go.Proofs.YtmejbfmhaoilmaaGreat
open Go Go.RowKit
set_option linter.unusedVariables false
set_option linter.unusedSimpArgs false
set_option maxHeartbeats 1000000
set_option maxRecDepth 20000
theorem aNc {w0:World}{S0:Bs}{x:(List UInt8)}{v0:Value} (h0:cX.ro w0 (FF w0 S0) x [v0]):
    Calls Tryz.prog 89 #[v0] w0 (aJ w0 S0 (fun r l=>l= [aG cX x [r]])):=by
 obtain⟨A0,c0,rfl,ae,af,ag,aa⟩:=aH h0
 refine Y.enter (N:=8) Tryz.func89 rfl rfl (by simp) [(0,.slice A0 x.length c0)] (by simp) (l0:= []) trivial ?_
 refine Y.seq (Y.region (Y.ql rfl (aA rfl .c) (Y.nt (Y.seq (Y.seq (Y.region (Y.mv rfl .g1 ?_)))))))
 refine Y.ql rfl (wP rfl gV (.t .z) .c) (Y.nt ?_)
 refine Y.cond (.t .z) (fun b2=> ?_) (fun b2=> ?_)
 refine Y.seq (Y.region (Y.er .g2 (Y.ql rfl (aA rfl .c) (Y.nt (Y.ret (Y.r ?_))))))
 refine Y.add (c:=aG cX [] [.slice none 0 0]) (fun w S=>aN w S none) ?_
 refine Y.af .z (aAj aa (by assumption)) ?_
 refine Y.i (aY rfl .z) (.c .z .n) ?_
 rfl
 refine Y.skip (Y.g (Y.seq (Y.region ?_)))
 refine Y.el rfl (eH rfl gV (inz kB)) ?_
 rintro _ _ ⟨g4,rfl,rfl⟩
 refine Y.mv rfl .g4 ?_
 refine Y.add (c:=aG cX ([]:(List UInt8)) [.slice (some ⟨g4,0,none⟩) 0 0]) (fun w S=>aN w S _) ?_
 refine Y.el rfl (eG (bC _ _ _) rfl gV kB rfl (.t .g1) (.t .z) (.c .z .n) (fun w1 S1 tr=>tr.ctx h0) (by first | omega |(simp only [List.length_append,List.length_take,List.length_nil,List.length_cons];omega)) (by first | omega |(simp only [List.length_append,List.length_take,List.length_nil,List.length_cons];omega))) ?_
 rintro _ _ rfl
 refine Y.af .z (List.nil_append _) ?_
 refine Y.h (WS.a .z) ?_
 rintro⟨ah,ai,rfl,ab,ac,ad⟩
 refine Y.er .g5 (Y.as rfl .z (Y.nt (Y.ret ?_)))
 refine Y.i (aY rfl .z) (.c .z .n) ?_
 rfl

theorem aL6 {w0:World}{S0:Bs}{x:(List aQ)}{v0:Value} (h0:cP.ro w0 (FF w0 S0) x [v0]):
    Calls Tryz.prog 111 #[v0] w0 (aJ w0 S0 (fun r l=>l= [aG cP x [r]])):=by
 obtain⟨A0,c0,rfl,ae,af,ag,aa⟩:=aH h0
 refine Y.enter (N:=8) Tryz.func111 rfl rfl (by simp) [(0,.slice A0 x.length c0)] (by simp) (l0:= []) trivial ?_
 refine Y.seq (Y.region (Y.ql rfl (aA rfl .c) (Y.nt (Y.seq (Y.seq (Y.region (Y.mv rfl .g1 ?_)))))))
 refine Y.ql rfl (wP rfl cZ (.t .z) .c) (Y.nt ?_)
 refine Y.cond (.t .z) (fun b2=> ?_) (fun b2=> ?_)
 refine Y.seq (Y.region (Y.er .g2 (Y.ql rfl (aA rfl .c) (Y.nt (Y.ret (Y.r ?_))))))
 refine Y.add (c:=aG cP [] [.slice none 0 0]) (fun w S=>aN w S none) ?_
 refine Y.af .z (aAj aa (by assumption)) ?_
 refine Y.i (aY rfl .z) (.c .z .n) ?_
 rfl
 refine Y.skip (Y.g (Y.seq (Y.region ?_)))
 refine Y.el rfl (eH rfl cZ (inz eF)) ?_
 rintro _ _ ⟨g4,rfl,rfl⟩
 refine Y.mv rfl .g4 ?_
 refine Y.add (c:=aG cP ([]:(List aQ)) [.slice (some ⟨g4,0,none⟩) 0 0]) (fun w S=>aN w S _) ?_
 refine Y.el rfl (eG (fS _ (eX (bC _ _ _) (bC _ _ _))) rfl cZ eF rfl (.t .g1) (.t .z) (.c .z .n) (fun w1 S1 tr=>tr.ctx h0) (by first | omega |(simp only [List.length_append,List.length_take,List.length_nil,List.length_cons];omega)) (by first | omega |(simp only [List.length_append,List.length_take,List.length_nil,List.length_cons];omega))) ?_
 rintro _ _ rfl
 refine Y.af .z (List.nil_append _) ?_
 refine Y.h (WS.a .z) ?_
 rintro⟨ah,ai,rfl,ab,ac,ad⟩
 refine Y.er .g5 (Y.as rfl .z (Y.nt (Y.ret ?_)))
 refine Y.i (aY rfl .z) (.c .z .n) ?_
 rfl

theorem aNu {w0:World}{S0:Bs}{x:(List (List UInt8))}{v0:Value} (h0:cG.ro w0 (FF w0 S0) x [v0]):
    Calls Tryz.prog 55 #[v0] w0 (aJ w0 S0 (fun r l=>l= [aG cG x [r]])):=by
 obtain⟨A0,c0,rfl,a1,a2,a3,ao⟩:=aH h0
 refine Y.enter (N:=19) Tryz.func55 rfl rfl (by simp) [(0,.slice A0 x.length c0)] (by simp) (l0:= []) trivial ?_
 refine Y.seq (Y.region (Y.ql rfl (aA rfl .c) (Y.nt (Y.seq (Y.region (Y.ql rfl (aA rfl .c) (Y.nil ?_)))))))
 refine Y.g (Y.seq (Y.seq (Y.region (Y.mv rfl .g2 (Y.ql rfl (bM rfl mA (.t .z)) (Y.ql rfl (aV rfl .c) (Y.nt ?_)))))))
 refine Y.block ?_
 refine Y.add (c:=aG cG [] [.slice none 0 0]) (fun w S=>aN w S none) ?_
 refine Y.aj (γ:=Nat×(Option Addr)×Nat) (fun⟨k,aa,ab⟩=> [(8,.int .i64 (k:Int)),(7,.int .i64 (x.length:Int)),(6,.slice A0 x.length c0),(3,.slice aa (List.take k x).length ab),(2,.slice none 0 0)]) (fun⟨k,aa,ab⟩=> [aG cG (List.take k x) [.slice aa (List.take k x).length ab]]) (fun⟨k,aa,ab⟩=>k≤x.length) (fun⟨k,aa,ab⟩=>x.length - k) (0,none,0) (Nat.zero_le _) (.c .z (.c .g1 (.c .g2 (.c .g3 (.c .g4 .n))))) (fun _ h=>h.sel (.c .z .n)) ?_
 rintro⟨k,aa,ab⟩ hk
 refine Y.seq (Y.region (Y.ql rfl (dJ rfl (.t .z) (.t .g1)) (Y.nt (Y.seq ?_))))
 refine Y.u (.t .z) (fun b3=> ?_) (fun b3=> ?_)
 refine Y.skip (Y.g (Y.seq (Y.block (Y.seq (Y.region ?_)))))
 obtain⟨a4,ae,af⟩:=ao (by omega)
 subst ae
 obtain⟨x5,ak⟩:=aI (xs:=x) (j:=k) (by omega)
 obtain⟨ap,ad,ag,ah⟩:=af.elem ak
 obtain⟨a5,rfl⟩:=mD ad
 obtain⟨a6,a7,rfl,aq,ar,au,av⟩:=aH ad
 refine Y.ql rfl (aC (j:=k) rfl mA mC (.t .g3) (.t .g1) rfl (by omega)) ?_
 refine Y.ql rfl (aL rfl nL (.t .z) (WS.j ag ah rfl)) (Y.as rfl .z (Y.nt (Y.region (Y.mv rfl .g7 (Y.mv rfl .g1 ?_)))))
 refine Y.cl rfl rfl Tryz.func89 rfl rfl (bT (.t .z)) .n (fun _ _ hs tr=>aNc (tr.ctx ad)) ?_
 rintro _ _ rfl
 refine Y.m (.c .n) ?_
 refine Y.h (WS.a .z) ?_
 rintro⟨aw,ax,rfl,ay,az,a0⟩
 refine Y.el rfl (aS (cs:= [.slice aw x5.length ax]) rfl mA (inz wU) (by decide) (pv1 (.t .z)) rfl rfl (by decide) rfl rfl) ?_
 rintro _ _ ⟨g10,rfl,rfl⟩
 refine Y.el rfl (dU rfl mA wU rfl (.t .g3) (.t .z) (.c .g2 (.c .z (.c .z .n))) (by first | omega |(simp only [List.length_take,List.length_cons,List.length_nil];omega) |(simp <;> omega)) (by first | omega |(simp only [List.length_take,List.length_cons,List.length_nil];omega) |(simp <;> omega))) ?_
 rintro _ _ rfl
 refine Y.af .z (uX ak).symm ?_
 refine Y.h (WS.a .z) ?_
 rintro⟨ai,aj,rfl,al,am,an⟩
 refine Y.er .g12 (Y.as rfl .z (Y.nil (Y.ac (Y.g (Y.region ?_)))))
 refine Y.ql rfl (bQ (c:=((k+1:Nat):Int)) rfl (.t .g10) .c (wr (by omega) (by omega) (by omega))) ?_
 refine Y.er .g11 (Y.mv rfl .z (Y.nil ?_))
 refine Y.ae ((k+1),ai,aj) (by omega) (by first | omega |(dsimp only;omega)) (.c .z (.c .g12 (.c .g13 (.c .g2 (.c .g14 .n))))) (fun _ h=>h.sel (.c .z .n))
 refine Y.exit (Y.ab (Y.ab (Y.ai (Y.g (Y.seq (Y.region (Y.mv rfl .g4 (Y.er .g6 ?_))))))))
 refine Y.as rfl .z (Y.nt (Y.ret ?_))
 have ac:List.take k x=x:=(List.take_of_length_le (by omega))
 refine Y.eq .z (congrArg (fun z_=>(.slice aa (z_).length ab:Value)) ac) ?_
 refine Y.eq .g1 (congrArg (fun z_=>(.slice aa (z_).length ab:Value)) ac) ?_
 refine Y.eq .g6 (congrArg (fun z_=>(.slice aa (z_).length ab:Value)) ac) ?_
 refine Y.ak .z (congrArg (fun z_=>(aG cG (z_) [.slice aa (z_).length ab]:Asn)) ac) ?_
 refine Y.i (aY rfl .g2) (.c .z .n) ?_
 rfl

end Go.Proofs.YtmejbfmhaoilmaaGreat

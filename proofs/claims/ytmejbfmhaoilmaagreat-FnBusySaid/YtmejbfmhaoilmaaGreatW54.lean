/- What is proved: contracts of functions, one a function. No condition. -/
import Derived.Test.YtmejbfmhaoilmaaGreatBase1
import Derived.Test.YtmejbfmhaoilmaaGreatW51
namespace Go.Proofs.YtmejbfmhaoilmaaGreat
open Go Go.RowKit
set_option linter.unusedVariables false
set_option linter.unusedSimpArgs false
set_option maxHeartbeats 1000000
set_option maxRecDepth 20000
theorem aIq {w0:World}{S0:Bs}{g0 e0 s0:Nat}{ac:List Value}{cd:List UInt8}{Ac:Option Addr}{cc:Nat} (hcd:bX.ro w0 (FF w0 S0) cd [.slice Ac cd.length cc]) {a:Int} (hs:cJ [bZ g0 e0 s0 1 ((.slice Ac cd.length cc) :: (.int .i64 a) :: ac)] w0 S0) (ha:0≤a∧a≤990000):
    Calls Tryz.prog 107 #[.pointer (some ⟨g0,0,none⟩)] w0 (aI w0 S0 (fun r l=>∃(x:List Int) (u:Int),(x.length≤30∧a≤u∧u≤a+12)∧l= [aG aY x [r],bZ g0 e0 s0 1 (.slice Ac cd.length cc :: .int .i64 u :: ac)])):=by
 obtain⟨hlc,hmc,hbc⟩:=mJ hcd
 refine Y.enter (N:=31) Tryz.func107 rfl rfl (by simp) [(0,.pointer (some ⟨g0,0,none⟩))] (by simp) hs ?_
 refine Y.seq (Y.region (Y.ql rfl (aA rfl .c) (Y.nt (Y.seq (Y.region ?_)))))
 refine Y.el rfl (dW rfl dN (inz fI)) ?_
 rintro _ _ ⟨g2,rfl,rfl⟩
 refine Y.as rfl .z (Y.nt (Y.seq (Y.seq (Y.region (Y.mv rfl .g3 ?_)))))
 refine Y.cl rfl rfl Tryz.func42 rfl rfl (aR (.t .z) .c) (.c .g1 .n) (fun _ _ hs tr=>lA (tr.ctx hcd) _ hs (by omega) (by omega)) ?_
 rintro _ _ ⟨m3,h0m3,h1m3,rfl,rfl⟩
 refine Y.r (.c .n) ?_
 refine Y.as rfl .z (Y.nt (Y.block ?_))
 refine Y.add (c:=aG aY ([]:(List Int)) [.slice (some ⟨g2,0,none⟩) 0 0]) (fun w S=>aK w S _) ?_
 refine Y.ah (γ:=(Option Addr)×Nat×Int×Int×(List Int)) (fun⟨aa,ab,n,z,o⟩=> [(4,.int .i64 n),(3,.slice aa o.length ab),(2,.slice none 0 0),(0,.pointer (some ⟨g0,0,none⟩))]) (fun⟨aa,ab,n,z,o⟩=> [aG aY o [.slice aa o.length ab],bZ g0 e0 s0 1 ((.slice Ac cd.length cc) :: (.int .i64 z) :: ac),bZ g2 2 1 0 []]) (fun⟨aa,ab,n,z,o⟩=>(0≤n∧n≤5)∧(a≤z∧z+n≤a+7)∧(o.length:Int)+n≤5) (fun⟨aa,ab,n,z,o⟩=>n.toNat) ((some ⟨g2,0,none⟩),0,m3,(a+1),[]) ⟨by omega,by omega,by simp only [List.length_nil];omega⟩ (.c .z (.c .g3 (.c .g5 (.c .g6 .n)))) (fun _ h=>h.sel (.c .z (.c .z (.c .z .n)))) ?_
 rintro⟨aa,ab,n,z,o⟩ ⟨hn,hz,hol⟩
 refine Y.seq (Y.seq (Y.region (Y.mv rfl .z (Y.ql rfl (gA rfl (.t .z) .c) (Y.nt ?_)))))
 refine Y.u (.t .z) (fun b5=> ?_) (fun b5=> ?_)
 refine Y.skip (Y.g (Y.seq (Y.block (Y.region (Y.mv rfl .g3 (Y.mv rfl .g6 ?_))))))
 refine Y.cl rfl rfl Tryz.func42 rfl rfl (aR (.t .z) .c) (.c .g1 .n) (fun _ _ hs tr=>lA (tr.ctx hcd) _ hs (by omega) (by omega)) ?_
 rintro _ _ ⟨m6,h0m6,h1m6,rfl,rfl⟩
 refine Y.r (.c .n) ?_
 refine Y.el rfl (aO (cs:= [.int .i64 m6]) rfl dN (inz fI) (by decide) (pv1 (.t .z)) rfl rfl (by decide) rfl rfl) ?_
 rintro _ _ ⟨g7,rfl,rfl⟩
 refine Y.add (c:=aG (gV .i64) m6 [.int .i64 m6]) (fun _ _=>⟨rfl,trivial⟩) ?_
 refine Y.el rfl (dC rfl dN fI rfl (.t .g3) (.t .z) (.c .g3 (.c .g1 (.c .z .n))) (by first | omega |(simp <;> omega)) (by first | omega |(simp <;> omega))) ?_
 rintro _ _ rfl
 refine Y.i (WS.a .z) ?_
 rintro⟨al,am,rfl,an,ao,ap⟩
 refine Y.er .g8 (Y.as rfl .z (Y.nil (Y.y (Y.g (Y.region (Y.mv rfl .g8 ?_))))))
 refine Y.ql rfl (jO (c:=n - 1) rfl (.t .z) .c (wr (by omega) (by omega) (by omega))) ?_
 refine Y.er .g10 (Y.as rfl .z (Y.nil ?_))
 refine Y.ae (al,am,n - 1,(z+1),o++ [m6]) ⟨by omega,by omega,by simp only [List.length_append,List.length_cons,List.length_nil];omega⟩ (by first | omega |(dsimp only;omega)) (.c .z (.c .g3 (.c .g11 (.c .g12 .n)))) (fun _ h=>h.sel (.c .z (.c .z (.c .z .n))))
 refine Y.exit (Y.w (Y.w (Y.ag (Y.g (Y.seq (Y.seq (Y.region (Y.mv rfl .g5 ?_))))))))
 refine Y.cl rfl rfl Tryz.func42 rfl rfl (aR (.t .z) .c) (.c .g1 .n) (fun _ _ hs tr=>lA (tr.ctx hcd) _ hs (by omega) (by omega)) ?_
 rintro _ _ ⟨ay,h0m10,h1m10,rfl,rfl⟩
 refine Y.r (.c .n) ?_
 refine Y.nt (Y.block (Y.seq (Y.region (Y.ql rfl (bP rfl (.t .z) .c) (Y.as rfl .z (Y.nt ?_))))))
 refine Y.u (.t .z) (fun aq=> ?_) (fun aq=> ?_)
 refine Y.region (Y.mv rfl .g7 (Y.mv rfl .g10 ?_))
 refine Y.el rfl (aO (cs:= [.int .i64 (-1),.int .i64 20]) rfl dN (inz fI) (by decide) (pv2 .c .c) rfl rfl (by decide) rfl rfl) ?_
 rintro _ _ ⟨g12,rfl,rfl⟩
 refine Y.ac (c:=aG aY ([(-1),20]:(List Int)) [.slice (some ⟨g12,0,none⟩) 2 2]) (.c .z .n) (fun w S h=>fU (xs:=([(-1),20]:(List Int))) h rfl (by simp) (by omega) (by omega)) ?_
 refine Y.cl rfl rfl Tryz.func41 rfl rfl (aR (.t .g1) (.t .z)) (.c .g1 .n) (fun _ _ hs tr=>sC (tr.ctx hcd) (tr.own .z) hs (by omega) (by simp)) ?_
 rintro _ _ ⟨ad,ae,rfl,rfl⟩
 refine Y.r (.c .n) ?_
 simp only [List.mem_cons,List.not_mem_nil,or_false] at ae
 refine Y.el rfl (aO (cs:= [.int .i64 ad]) rfl dN (inz fI) (by decide) (pv1 (.t .z)) rfl rfl (by decide) rfl rfl) ?_
 rintro _ _ ⟨g15,rfl,rfl⟩
 refine Y.add (c:=aG (gV .i64) ad [.int .i64 ad]) (fun _ _=>⟨rfl,trivial⟩) ?_
 refine Y.el rfl (dC rfl dN fI rfl (.t .g4) (.t .z) (.c .g4 (.c .g1 (.c .z .n))) (by first | omega |(simp <;> omega)) (by first | omega |(simp <;> omega))) ?_
 rintro _ _ rfl
 refine Y.i (WS.a .z) ?_
 rintro⟨ar,au,rfl,af,ag,ah⟩
 refine Y.er .g13 (Y.as rfl .z (Y.nil (Y.y (Y.g (Y.seq (Y.region (Y.mv rfl .z (Y.er .g15 ?_))))))))
 refine Y.as rfl .z (Y.nt (Y.ret ?_))
 refine Y.j (aT rfl .z) (.c .z (.c .z .n)) ?_
 exact⟨_,_,⟨by first | omega |(simp <;> omega),by omega,by omega⟩,rfl⟩
 refine Y.seq (Y.region (Y.ql rfl (bP rfl (.t .g2) .c) (Y.as rfl .z (Y.nt ?_))))
 refine Y.u (.t .z) (fun av=> ?_) (fun av=> ?_)
 refine Y.region ?_
 refine Y.el rfl (jH (n:=21) (x0:=(0:Int)) rfl dN fI rfl (fun _ _=>⟨rfl,trivial⟩) .c .c (by omega) (by omega)) ?_
 rintro _ _ rfl
 refine Y.i (WS.a .z) ?_
 rintro⟨aw,ax,rfl,ai,aj,ak⟩
 refine Y.er .g10 (Y.as rfl .z (Y.nil (Y.y (Y.g (Y.seq (Y.region (Y.mv rfl .z (Y.er .g12 ?_))))))))
 refine Y.as rfl .z (Y.nt (Y.ret ?_))
 refine Y.j (aT rfl .z) (.c .z (.c .z .n)) ?_
 exact⟨_,_,⟨by first | omega |(simp <;> omega),by omega,by omega⟩,rfl⟩
 refine Y.skip (Y.y (Y.g (Y.seq (Y.region (Y.mv rfl .g9 (Y.er .g11 (Y.as rfl .z (Y.nil ?_))))))))
 refine Y.g (Y.ret ?_)
 refine Y.j (aT rfl .z) (.c .g1 (.c .z .n)) ?_
 exact⟨_,_,⟨by first | omega |(simp <;> omega),by omega,by omega⟩,rfl⟩

end Go.Proofs.YtmejbfmhaoilmaaGreat

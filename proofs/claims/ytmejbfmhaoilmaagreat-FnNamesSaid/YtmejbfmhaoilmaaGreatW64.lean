/- What is proved: contracts of functions, one a function. No condition. -/
import Derived.Test.YtmejbfmhaoilmaaGreatBase1
import Derived.Test.YtmejbfmhaoilmaaGreatW60
import Derived.Test.YtmejbfmhaoilmaaGreatW50
namespace Go.Proofs.YtmejbfmhaoilmaaGreat
open Go Go.RowKit
set_option linter.unusedVariables false
set_option linter.unusedSimpArgs false
set_option maxHeartbeats 1000000
set_option maxRecDepth 20000
theorem aEl {w0:World}{S0:Bs}{g0 e0 s0:Nat}{ac:List Value}{cd:List UInt8}{Ac:Option Addr}{cc:Nat} (hcd:cX.ro w0 (FF w0 S0) cd [.slice Ac cd.length cc]) {a:Int} (hs:cB [cM g0 e0 s0 1 ((.slice Ac cd.length cc) :: (.int .i64 a) :: ac)] w0 S0) (ha:0≤a∧a≤990000):
    Calls Tryz.prog 161 #[.pointer (some ⟨g0,0,none⟩)] w0 (aJ w0 S0 (fun r l=>∃(s:ByteArray) (u:Int),(s.size≤100∧a≤u∧u≤a+8)∧r= .string s∧l= [cM g0 e0 s0 1 (.slice Ac cd.length cc :: .int .i64 u :: ac)])):=by
 obtain⟨hlc,hmc,hbc⟩:=nG hcd
 refine Y.enter (N:=20) Tryz.func161 rfl rfl (by simp) [(0,.pointer (some ⟨g0,0,none⟩))] (by simp) hs ?_
 refine Y.seq (Y.region (Y.ql rfl (aA rfl .c) (Y.nt (Y.seq (Y.region ?_)))))
 refine Y.el rfl (eH rfl hZ (inz lQ)) ?_
 rintro _ _ ⟨g2,rfl,rfl⟩
 refine Y.as rfl .z (Y.nt (Y.seq (Y.seq (Y.region (Y.mv rfl .g3 ?_)))))
 refine Y.el rfl (aS (ps:= [(0,.int .i64 1),(1,.int .i64 1),(2,.int .i64 2),(3,.int .i64 2),(4,.int .i64 3),(5,.int .i64 0)]) (cs:= [.int .i64 1,.int .i64 1,.int .i64 2,.int .i64 2,.int .i64 3,.int .i64 0]) rfl eQ (inz iO) (by decide) (by intro act hact;simp only [List.map_toArray,List.map_cons,List.map_nil,(show Val _ _ _ from .c) act hact,(show Val _ _ _ from .c) act hact,(show Val _ _ _ from .c) act hact,(show Val _ _ _ from .c) act hact,(show Val _ _ _ from .c) act hact,(show Val _ _ _ from .c) act hact]) rfl rfl (by decide) rfl rfl) ?_
 rintro _ _ ⟨g3,rfl,rfl⟩
 refine Y.v (c:=aG bY ([1,1,2,2,3,0]:(List Int)) [.slice (some ⟨g3,0,none⟩) 6 6]) (.c .z .n) (fun w S h=>gK (xs:=([1,1,2,2,3,0]:(List Int))) h rfl (by simp) (by omega) (by omega)) ?_
 refine Y.cl rfl rfl Tryz.func41 rfl rfl (aX (.t .g1) (.t .z)) (.c .g2 .n) (fun _ _ hs tr=>tC (tr.ctx hcd) (tr.own .z) hs (by omega) (by simp)) ?_
 rintro _ _ ⟨m5,aj,rfl,rfl⟩
 refine Y.m (.c .n) ?_
 simp only [List.mem_cons,List.not_mem_nil,or_false] at aj
 refine Y.as rfl .z (Y.nt (Y.block ?_))
 refine Y.add (c:=aG fB ([]:(List ByteArray)) [.slice (some ⟨g2,0,none⟩) 0 0]) (fun w S=>aN w S _) ?_
 refine Y.aj (γ:=(Option Addr)×Nat×Int×Int×(List ByteArray)) (fun⟨aa,ab,n,z,o⟩=> [(4,.int .i64 n),(3,.slice aa o.length ab),(2,.string (⟨#[]⟩)),(0,.pointer (some ⟨g0,0,none⟩))]) (fun⟨aa,ab,n,z,o⟩=> [aG fB o [.slice aa o.length ab],cM g0 e0 s0 1 ((.slice Ac cd.length cc) :: (.int .i64 z) :: ac),aG bY ([1,1,2,2,3,0]:(List Int)) [.slice (some ⟨g3,0,none⟩) 6 6],cM g2 9 1 0 []]) (fun⟨aa,ab,n,z,o⟩=>(0≤n∧n≤3)∧(a≤z∧z+n≤a+5)∧(∀s,s∈o→cD s=0)∧(o.length:Int)+n≤3) (fun⟨aa,ab,n,z,o⟩=>n.toNat) ((some ⟨g2,0,none⟩),0,m5,(a+1),[]) ⟨by omega,by omega,fun s h=>absurd h (by simp),by simp only [List.length_nil];omega⟩ (.c .z (.c .g4 (.c .g6 (.c .g7 .n)))) (fun _ h=>h.sel (.c .z (.c .z (.c .z (.c .z .n))))) ?_
 rintro⟨aa,ab,n,z,o⟩ ⟨hn,hz,ho,hol⟩
 refine Y.seq (Y.seq (Y.region (Y.mv rfl .z (Y.ql rfl (gO rfl (.t .z) .c) (Y.nt ?_)))))
 refine Y.u (.t .z) (fun b7=> ?_) (fun b7=> ?_)
 refine Y.skip (Y.g (Y.seq (Y.block (Y.region (Y.mv rfl .g3 (Y.mv rfl .g6 ?_))))))
 refine Y.cl rfl rfl Tryz.func121 rfl rfl (bT (.t .z)) (.c .g1 .n) (fun _ _ hs tr=>aEk (tr.ctx hcd) hs (by omega)) ?_
 rintro _ _ ⟨t8,ad,rfl,rfl⟩
 refine Y.m (.c .n) ?_
 have ak:=(rV ad).1
 refine Y.el rfl (aS (cs:= [.string t8]) rfl hZ (inz lQ) (by decide) (pv1 (.t .z)) rfl rfl (by decide) rfl rfl) ?_
 rintro _ _ ⟨g10,rfl,rfl⟩
 refine Y.add (c:=aG uM t8 [.string t8]) (fun _ _=>⟨rfl,by first | assumption | omega⟩) ?_
 refine Y.el rfl (dU rfl hZ lQ rfl (.t .g3) (.t .z) (.c .g3 (.c .g1 (.c .z .n))) (by first | omega |(simp <;> omega)) (by first | omega |(simp <;> omega))) ?_
 rintro _ _ rfl
 refine Y.h (WS.a .z) ?_
 rintro⟨ae,af,rfl,ag,ah,ai⟩
 refine Y.er .g8 (Y.as rfl .z (Y.nil (Y.ac (Y.g (Y.region (Y.mv rfl .g8 ?_))))))
 refine Y.ql rfl (jL (c:=n - 1) rfl (.t .z) .c (wr (by omega) (by omega) (by omega))) ?_
 refine Y.er .g10 (Y.as rfl .z (Y.nil ?_))
 refine Y.ae (ae,af,n - 1,(z+1),o++ [t8]) ⟨by omega,by omega,(fun s h=>(List.mem_append.1 h).elim (ho s) (fun h=>by obtain rfl:=List.mem_singleton.1 h;assumption)),by simp only [List.length_append,List.length_cons,List.length_nil];omega⟩ (by first | omega |(dsimp only;omega)) (.c .z (.c .g3 (.c .g11 (.c .g12 .n)))) (fun _ h=>h.sel (.c .z (.c .z (.c .z (.c .z .n)))))
 refine Y.exit (Y.ab (Y.ab (Y.ai (Y.g (Y.seq (Y.region (Y.mv rfl .g3 ?_)))))))
 refine Y.cl rfl rfl Tryz.func181 rfl rfl (bT (.t .z)) .n (fun _ _ hs tr=>aLr (tr.own .z) (by exact ho) (by omega)) ?_
 rintro _ _ ⟨rfl,rfl⟩
 refine Y.m .n ?_
 refine Y.er .g6 (Y.as rfl .z (Y.nt (Y.ret ?_)))
 refine Y.i (aY rfl .z) (.c .g1 .n) ?_
 exact⟨_,_,⟨by have:=aDr ho;omega,by omega,by omega⟩,rfl,rfl⟩

end Go.Proofs.YtmejbfmhaoilmaaGreat

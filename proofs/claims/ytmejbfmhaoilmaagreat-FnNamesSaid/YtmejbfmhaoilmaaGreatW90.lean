/- What is proved: contracts of functions, one a function. No condition. -/
import Derived.Test.YtmejbfmhaoilmaaGreatBase1
import Derived.Test.YtmejbfmhaoilmaaGreatW87
import Derived.Test.YtmejbfmhaoilmaaGreatBase2
namespace Go.Proofs.YtmejbfmhaoilmaaGreat
open Go Go.RowKit
set_option linter.unusedVariables false
set_option linter.unusedSimpArgs false
set_option maxHeartbeats 1000000
set_option maxRecDepth 20000
theorem aN2 {w0:World}{S0:Bs}{cd:(List UInt8)}{v0:Value} (h0:cX.ro w0 (FF w0 S0) cd [v0]) (hcl:cd.length≤1048576):
    Calls Tryz.prog 74 #[v0] w0 (aJ w0 S0 (fun r l=>∃(f:DFs) (v0_ v1_:Value) (m0:Int) (m1:ByteArray),(f.inodes.length≤11∧f.data.length≤20∧ -1≤m0∧m0≤12∧m1.size≤140737488351232)∧r= .tuple #[.agg #[v0_,v1_],.int .i64 m0,.string m1]∧l= [aG (iT aP) f.inodes [v0_],aG (iT cG) f.data [v1_]])):=by
 obtain⟨A0,c0,rfl,ci,cj,ck,cm⟩:=aH h0
 refine Y.enter (N:=61) Tryz.func74 rfl rfl (by simp) [(0,.slice A0 cd.length c0)] (by simp) (l0:= []) trivial ?_
 refine Y.seq (Y.region ?_)
 refine Y.el rfl (bL rfl nF rfl rfl) ?_
 rintro _ _ ⟨g2,rfl,rfl⟩
 refine Y.ql rfl (aA rfl .c) (Y.ql rfl (aA rfl .c) (Y.nt (Y.seq (Y.region (Y.mv rfl .g3 ?_)))))
 refine Y.cl rfl rfl Tryz.func40 rfl rfl (bT (.t .z)) .n (fun _ _ hs tr=>aKd (tr.ctx h0)) ?_
 rintro _ _ ⟨g3,rfl,rfl⟩
 refine Y.m (.c .n) ?_
 refine Y.as rfl .z (Y.nt (Y.seq (Y.region (Y.mv rfl .z ?_))))
 refine Y.cl rfl rfl Tryz.func49 rfl rfl (bT (.t .z)) (.c .z .n) (fun _ _ hs tr=>aOf (tr.ctx h0) hs (by omega)) ?_
 rintro _ _ ⟨aa,v6,v8,u4,bm,rfl,rfl⟩
 refine Y.m (.c (.c (.c .n))) ?_
 refine Y.h (WS.v .z) ?_
 rintro⟨ah,ab,rfl,bn,bo,bp⟩
 refine Y.h (WS.v .g1) ?_
 rintro⟨ac,ad,rfl,bq,br,bs⟩
 refine Y.a3 .z ?_
 intro w0 S0 aw ai af
 replace h0:=aw h0
 refine Y.a3 .z ?_
 intro w0 S0 al bt ag
 replace ai:=al ai
 replace h0:=al h0
 refine Y.el rfl (bL rfl nF rfl rfl) ?_
 rintro _ _ ⟨g23,rfl,rfl⟩
 refine Y.es (aD rfl) rfl (esW rfl (.t .z) (.t .g1) .z aW rfl rfl) ?_
 refine Y.nt (Y.seq (Y.region (Y.mv rfl .g3 (Y.mv rfl .g4 (Y.fa rfl .g2 aO (Y.ld rfl bK .z .z (Y.ql rfl (bM rfl cE (.t .z)) ?_)))))))
 refine Y.ql rfl (bQ (c:=((aa.inodes.length+2:Nat):Int)) rfl (.t .z) .c (wr (by omega) (by omega) (by omega))) ?_
 refine Y.cl rfl rfl Tryz.func42 rfl rfl (aX (.t .g4) (.t .z)) (.c .g1 .n) (fun _ _ hs tr=>mG (tr.ctx h0) _ hs (by omega) (by omega)) ?_
 rintro _ _ ⟨a2,h0m24,h1m24,rfl,rfl⟩
 refine Y.m (.c .n) ?_
 refine Y.ql rfl (jL (c:=a2 - 1) rfl (.t .z) .c (wr (by omega) (by omega) (by omega))) ?_
 refine Y.el rfl (aS (cs:= [.int .i64 0,.int .i64 0,.int .i64 1,.int .i64 (a2 - 1)]) rfl eQ (inz iO) (by decide) (pv4 .c .c .c (.t .z)) rfl rfl (by decide) rfl rfl) ?_
 rintro _ _ ⟨g25,rfl,rfl⟩
 refine Y.v (c:=aG bY ([0,0,1,a2 - 1]:(List Int)) [.slice (some ⟨g25,0,none⟩) 4 4]) (.c .z .n) (fun w S h=>gK (xs:=([0,0,1,a2 - 1]:(List Int))) h rfl (by simp) (by omega) (by omega)) ?_
 refine Y.cl rfl rfl Tryz.func41 rfl rfl (aX (.t .g8) (.t .z)) (.c .g1 .n) (fun _ _ hs tr=>tC (tr.ctx h0) (tr.own .z) hs (by omega) (by simp)) ?_
 rintro _ _ ⟨aj,bb,rfl,rfl⟩
 refine Y.m (.c .n) ?_
 simp only [List.mem_cons,List.not_mem_nil,or_false] at bb
 refine Y.as rfl .z (Y.nt (Y.seq (Y.region (Y.mv rfl .g14 ?_))))
 refine Y.cl rfl rfl Tryz.func121 rfl rfl (bT (.t .z)) (.c .z .n) (fun _ _ hs tr=>aEk (tr.ctx h0) hs (by omega)) ?_
 rintro _ _ ⟨a3,ax,rfl,rfl⟩
 refine Y.m (.c .n) ?_
 have bu:=(rV ax).1
 refine Y.as rfl .z (Y.nt (Y.seq (Y.seq (Y.region (Y.fa rfl .g14 aO (Y.ld rfl bK .z .g2 (Y.ql rfl (bM rfl cE (.t .z)) ?_)))))))
 refine Y.ql rfl (gO rfl (.t .z) .c) (Y.mv rfl .z ?_)
 refine Y.al .z (fun g30=> ?_) (fun g30=> ?_)
 refine Y.qg rfl rfl .z rfl rfl rfl (aK rfl (.t (.s16 .g3)) (fun _=>aO _ _)) ?_
 refine Y.qg rfl rfl .g1 rfl rfl rfl (aL rfl bK (.t .z) (WS.g .g2 rfl)) ?_
 obtain⟨ae,ao,ap⟩:=(aJr ai) (by omega)
 subst ao
 obtain⟨b3,bc⟩:=aI (xs:=aa.inodes) (j:=0) (by omega)
 obtain⟨bv,ay,am,an⟩:=ap.elem bc
 obtain⟨bd,be,rfl,aq,ar⟩:=cK ay
 obtain⟨bf,bg,rfl,a4,a5,a6,a7⟩:=aH aq
 obtain⟨bh,bi,rfl,a8,a9,ba,ak⟩:=aH ar
 refine Y.qg rfl rfl .g2 rfl rfl rfl (aC (j:=0) rfl cE aU (.t .z) .c rfl (by omega)) ?_
 refine Y.qg rfl rfl .g3 rfl rfl rfl (aK rfl (.t .z) (fun _=>bE _ _)) ?_
 refine Y.qg rfl rfl .g4 rfl rfl rfl (aL rfl dP (.t .z) (WS.el am an rfl)) ?_
 refine Y.qg rfl rfl .g5 rfl rfl rfl (bM rfl cZ (.t .z)) ?_
 refine Y.qg rfl rfl .g6 rfl rfl rfl (gO rfl (.t .z) .c) ?_
 refine Y.ql rfl (bO rfl (.t .g7) (.t .z)) (Y.mv rfl .z ?_)
 refine Y.al .z (fun g36=> ?_) (fun g36=> ?_)
 refine Y.qg rfl rfl .z rfl rfl rfl (aV rfl (.t (.s16 .g1))) ?_
 refine Y.qg rfl rfl .g1 rfl rfl rfl (bZ rfl (.t .z) .c) ?_
 refine Y.ql rfl (bO rfl (.t .g2) (.t .z)) (Y.mv rfl .z ?_)
 refine Y.al .z (fun g37=> ?_) (fun g37=> ?_)
 refine Y.qg rfl rfl .z rfl rfl rfl (aV rfl (.t (.s16 (.s16 .g3)))) ?_
 refine Y.call (fU rfl rfl .g1) rfl (by decide) rfl (bS rfl Tryz.func87 rfl rfl (aX (.t .z) .c)) (.c .z .n) (fun _ _ hs tr=>aAo (tr.ctx h0) _ hs (by omega) (by omega)) ?_
 rintro _ _ ⟨cn,rfl,rfl⟩
 refine Y.m (.c .n) ?_
 refine Y.ql rfl (bO rfl (.t .g2) (.t .z)) (Y.nt ?_)
 refine Y.cond (.t .z) (fun b4=> ?_) (fun b4=> ?_)
 refine Y.region (Y.fa rfl (.s16 (.s16 .g3)) aO (Y.ld rfl bK .z .g2 ?_))
 refine Y.ql rfl (aC (j:=0) rfl cE aU (.t .z) .c rfl (by omega)) ?_
 refine Y.fa rfl .z bE (Y.le rfl dP .z am an ?_)
 obtain⟨b5,au,av⟩:=ak (by omega)
 subst au
 obtain⟨b6,bj⟩:=aI (xs:=b3.ents) (j:=0) (by omega)
 obtain⟨bw,az,a0,a1⟩:=av.elem bj
 obtain⟨rfl,bk⟩:=eR az
 refine Y.ql rfl (aC (j:=0) rfl cZ dV (.t .z) .c rfl (by omega)) ?_
 refine Y.fa rfl .z jP (Y.le rfl iR .z a0 a1 (Y.er (.s16 .g13) (Y.as rfl .z (Y.nt (Y.seq (Y.seq (Y.region ?_)))))))
 refine Y.mv rfl (.s16 (.s16 .g14)) ?_
 refine Y.cl rfl rfl Tryz.func87 rfl rfl (aX (.t .z) .c) (.c .z .n) (fun _ _ hs tr=>aAo (tr.ctx h0) _ hs (by omega) (by omega)) ?_
 rintro _ _ ⟨co,rfl,rfl⟩
 refine Y.m (.c .n) ?_
 refine Y.nt ?_
 refine Y.cond (.t .z) (fun b7=> ?_) (fun b7=> ?_)
 refine Y.region (Y.mv rfl (.s16 (.s16 (.s16 .g6))) ?_)
 refine Y.cl rfl rfl Tryz.func122 rfl rfl (bT (.t .z)) .n (fun _ _ hs tr=>aBp (tr.ctx h0)) ?_
 rintro _ _ ⟨b8,bx,rfl,rfl⟩
 refine Y.m .n ?_
 refine Y.er .g4 (Y.as rfl .z (Y.nt (Y.seq (Y.region (Y.ql rfl (qW rfl bI (.t (.s16 (.s16 .g15))) .g2 aW) (Y.mv rfl (.s16 (.s16 .g5)) (Y.mv rfl .g2 ?_)))))))
 refine Y.es (aD rfl) rfl (esW rfl (.t (.s16 (.s16 (.s16 .g10)))) (.t .g2) .g3 aW rfl rfl) ?_
 refine Y.er (.s16 (.s16 (.s16 .g9))) (Y.as rfl .g1 (Y.er (.s16 (.s16 (.s16 .g9))) (Y.as rfl .g1 (Y.nt (Y.ret ?_)))))
 refine Y.ax [aG (iT aP) aa.inodes [.slice (some ae) aa.inodes.length ab],aG (iT cG) aa.data [.slice ac aa.data.length ad]] (fun l w h=>af _ _ (ag _ _ (h))) ?_
 refine Y.i (mW (cs:= [.slice (some ae) aa.inodes.length ab,.slice ac aa.data.length ad]) rfl (.s16 (.s16 (.s16 .g10))) bI aW (WS.r (cs:= [.slice (some ae) aa.inodes.length ab,.slice ac aa.data.length ad]) .z (fun _ _ h=>h)) .g1 .z) .n ?_
 exact⟨aa,_,_,aj,b8,⟨by first | assumption | omega | decide |(simp <;> omega),by first | assumption | omega | decide |(simp <;> omega),by first | assumption | omega | decide |(simp <;> omega),by first | assumption | omega | decide |(simp <;> omega)⟩,rfl,rfl⟩
 refine Y.skip (Y.g (Y.seq (Y.region (Y.ql rfl (qW rfl bI (.t (.s16 (.s16 .g13))) .g2 aW) (Y.mv rfl (.s16 (.s16 .g3)) (Y.mv rfl .g4 ?_))))))
 refine Y.es (aD rfl) rfl (esW rfl (.t (.s16 (.s16 (.s16 .g8)))) (.t .g2) .g3 aW rfl rfl) ?_
 refine Y.er (.s16 (.s16 (.s16 .g7))) (Y.as rfl .g1 (Y.er (.s16 (.s16 (.s16 .g7))) (Y.as rfl .g1 (Y.nt (Y.ret ?_)))))
 refine Y.ax [aG (iT aP) aa.inodes [.slice (some ae) aa.inodes.length ab],aG (iT cG) aa.data [.slice ac aa.data.length ad]] (fun l w h=>af _ _ (ag _ _ (h))) ?_
 refine Y.i (mW (cs:= [.slice (some ae) aa.inodes.length ab,.slice ac aa.data.length ad]) rfl (.s16 (.s16 (.s16 .g8))) bI aW (WS.r (cs:= [.slice (some ae) aa.inodes.length ab,.slice ac aa.data.length ad]) .z (fun _ _ h=>h)) .g1 .z) .n ?_
 exact⟨aa,_,_,aj,b6.name,⟨by first | assumption | omega | decide |(simp <;> omega),by first | assumption | omega | decide |(simp <;> omega),by first | assumption | omega | decide |(simp <;> omega),by first | assumption | omega | decide |(simp <;> omega)⟩,rfl,rfl⟩
 refine Y.skip (Y.g (Y.seq (Y.seq (Y.region (Y.mv rfl (.s16 (.s16 .g6)) ?_)))))
 refine Y.cl rfl rfl Tryz.func87 rfl rfl (aX (.t .z) .c) (.c .z .n) (fun _ _ hs tr=>aAo (tr.ctx h0) _ hs (by omega) (by omega)) ?_
 rintro _ _ ⟨cp,rfl,rfl⟩
 refine Y.m (.c .n) ?_
 refine Y.nt ?_
 refine Y.cond (.t .z) (fun b9=> ?_) (fun b9=> ?_)
 refine Y.region (Y.mv rfl (.s16 (.s16 .g14)) ?_)
 refine Y.cl rfl rfl Tryz.func122 rfl rfl (bT (.t .z)) .n (fun _ _ hs tr=>aBp (tr.ctx h0)) ?_
 rintro _ _ ⟨ca,bz,rfl,rfl⟩
 refine Y.m .n ?_
 refine Y.er (.s16 .g9) (Y.as rfl .z (Y.nt (Y.seq (Y.region (Y.ql rfl (qW rfl bI (.t (.s16 (.s16 .g7))) .g2 aW) (Y.mv rfl (.s16 .g13) (Y.mv rfl .g2 ?_)))))))
 refine Y.es (aD rfl) rfl (esW rfl (.t (.s16 (.s16 (.s16 .g2)))) (.t .g2) .g3 aW rfl rfl) ?_
 refine Y.er (.s16 (.s16 (.s16 .g1))) (Y.as rfl .g1 (Y.er (.s16 (.s16 (.s16 .g1))) (Y.as rfl .g1 (Y.nt (Y.ret ?_)))))
 refine Y.ax [aG (iT aP) aa.inodes [.slice (some ae) aa.inodes.length ab],aG (iT cG) aa.data [.slice ac aa.data.length ad]] (fun l w h=>af _ _ (ag _ _ (h))) ?_
 refine Y.i (mW (cs:= [.slice (some ae) aa.inodes.length ab,.slice ac aa.data.length ad]) rfl (.s16 (.s16 (.s16 .g2))) bI aW (WS.r (cs:= [.slice (some ae) aa.inodes.length ab,.slice ac aa.data.length ad]) .z (fun _ _ h=>h)) .g1 .z) .n ?_
 exact⟨aa,_,_,aj,ca,⟨by first | assumption | omega | decide |(simp <;> omega),by first | assumption | omega | decide |(simp <;> omega),by first | assumption | omega | decide |(simp <;> omega),by first | assumption | omega | decide |(simp <;> omega)⟩,rfl,rfl⟩
 refine Y.skip (Y.g (Y.seq (Y.region (Y.ql rfl (qW rfl bI (.t (.s16 (.s16 .g5))) .g2 aW) (Y.mv rfl (.s16 .g11) (Y.mv rfl (.s16 .g9) ?_))))))
 refine Y.es (aD rfl) rfl (esW rfl (.t (.s16 (.s16 .g16))) (.t .g2) .g3 aW rfl rfl) ?_
 refine Y.er (.s16 (.s16 .g15)) (Y.as rfl .g1 (Y.er (.s16 (.s16 .g15)) (Y.as rfl .g1 (Y.nt (Y.ret ?_)))))
 refine Y.ax [aG (iT aP) aa.inodes [.slice (some ae) aa.inodes.length ab],aG (iT cG) aa.data [.slice ac aa.data.length ad]] (fun l w h=>af _ _ (ag _ _ (h))) ?_
 refine Y.i (mW (cs:= [.slice (some ae) aa.inodes.length ab,.slice ac aa.data.length ad]) rfl (.s16 (.s16 .g16)) bI aW (WS.r (cs:= [.slice (some ae) aa.inodes.length ab,.slice ac aa.data.length ad]) .z (fun _ _ h=>h)) .g1 .z) .n ?_
 exact⟨aa,_,_,aj,a3,⟨by first | assumption | omega | decide |(simp <;> omega),by first | assumption | omega | decide |(simp <;> omega),by first | assumption | omega | decide |(simp <;> omega),by first | assumption | omega | decide |(simp <;> omega)⟩,rfl,rfl⟩
 refine Y.j rfl rfl .z rfl rfl (by decide) rfl ?_
 refine Y.j rfl rfl .g1 rfl rfl (by decide) rfl ?_
 refine Y.ql rfl (bW rfl (.t .g2) .c) (Y.nt ?_)
 refine Y.ar (.t .z) ?_
 refine Y.skip (Y.g (Y.seq (Y.seq (Y.region (Y.mv rfl (.s16 (.s16 .g6)) ?_)))))
 refine Y.cl rfl rfl Tryz.func87 rfl rfl (aX (.t .z) .c) (.c .z .n) (fun _ _ hs tr=>aAo (tr.ctx h0) _ hs (by omega) (by omega)) ?_
 rintro _ _ ⟨cq,rfl,rfl⟩
 refine Y.m (.c .n) ?_
 refine Y.nt ?_
 refine Y.cond (.t .z) (fun cb=> ?_) (fun cb=> ?_)
 refine Y.region (Y.mv rfl (.s16 (.s16 .g14)) ?_)
 refine Y.cl rfl rfl Tryz.func122 rfl rfl (bT (.t .z)) .n (fun _ _ hs tr=>aBp (tr.ctx h0)) ?_
 rintro _ _ ⟨cc,b0,rfl,rfl⟩
 refine Y.m .n ?_
 refine Y.er (.s16 .g9) (Y.as rfl .z (Y.nt (Y.seq (Y.region (Y.ql rfl (qW rfl bI (.t (.s16 (.s16 .g7))) .g2 aW) (Y.mv rfl (.s16 .g13) (Y.mv rfl .g2 ?_)))))))
 refine Y.es (aD rfl) rfl (esW rfl (.t (.s16 (.s16 (.s16 .g2)))) (.t .g2) .g3 aW rfl rfl) ?_
 refine Y.er (.s16 (.s16 (.s16 .g1))) (Y.as rfl .g1 (Y.er (.s16 (.s16 (.s16 .g1))) (Y.as rfl .g1 (Y.nt (Y.ret ?_)))))
 refine Y.ax [aG (iT aP) aa.inodes [.slice (some ae) aa.inodes.length ab],aG (iT cG) aa.data [.slice ac aa.data.length ad]] (fun l w h=>af _ _ (ag _ _ (h))) ?_
 refine Y.i (mW (cs:= [.slice (some ae) aa.inodes.length ab,.slice ac aa.data.length ad]) rfl (.s16 (.s16 (.s16 .g2))) bI aW (WS.r (cs:= [.slice (some ae) aa.inodes.length ab,.slice ac aa.data.length ad]) .z (fun _ _ h=>h)) .g1 .z) .n ?_
 exact⟨aa,_,_,aj,cc,⟨by first | assumption | omega | decide |(simp <;> omega),by first | assumption | omega | decide |(simp <;> omega),by first | assumption | omega | decide |(simp <;> omega),by first | assumption | omega | decide |(simp <;> omega)⟩,rfl,rfl⟩
 refine Y.skip (Y.g (Y.seq (Y.region (Y.ql rfl (qW rfl bI (.t (.s16 (.s16 .g5))) .g2 aW) (Y.mv rfl (.s16 .g11) (Y.mv rfl (.s16 .g9) ?_))))))
 refine Y.es (aD rfl) rfl (esW rfl (.t (.s16 (.s16 .g16))) (.t .g2) .g3 aW rfl rfl) ?_
 refine Y.er (.s16 (.s16 .g15)) (Y.as rfl .g1 (Y.er (.s16 (.s16 .g15)) (Y.as rfl .g1 (Y.nt (Y.ret ?_)))))
 refine Y.ax [aG (iT aP) aa.inodes [.slice (some ae) aa.inodes.length ab],aG (iT cG) aa.data [.slice ac aa.data.length ad]] (fun l w h=>af _ _ (ag _ _ (h))) ?_
 refine Y.i (mW (cs:= [.slice (some ae) aa.inodes.length ab,.slice ac aa.data.length ad]) rfl (.s16 (.s16 .g16)) bI aW (WS.r (cs:= [.slice (some ae) aa.inodes.length ab,.slice ac aa.data.length ad]) .z (fun _ _ h=>h)) .g1 .z) .n ?_
 exact⟨aa,_,_,aj,a3,⟨by first | assumption | omega | decide |(simp <;> omega),by first | assumption | omega | decide |(simp <;> omega),by first | assumption | omega | decide |(simp <;> omega),by first | assumption | omega | decide |(simp <;> omega)⟩,rfl,rfl⟩
 refine Y.j rfl rfl .z rfl rfl (by decide) rfl ?_
 refine Y.j rfl rfl .g1 rfl rfl (by decide) rfl ?_
 refine Y.ql rfl (bW rfl (.t .g2) .c) (Y.mv rfl .z ?_)
 refine Y.j rfl rfl .z rfl rfl (by decide) rfl ?_
 refine Y.j rfl rfl .g1 rfl rfl (by decide) rfl ?_
 refine Y.ql rfl (bW rfl (.t .g2) .c) (Y.nt ?_)
 refine Y.ar (.t .z) ?_
 refine Y.skip (Y.g (Y.seq (Y.seq (Y.region (Y.mv rfl (.s16 (.s16 .g6)) ?_)))))
 refine Y.cl rfl rfl Tryz.func87 rfl rfl (aX (.t .z) .c) (.c .z .n) (fun _ _ hs tr=>aAo (tr.ctx h0) _ hs (by omega) (by omega)) ?_
 rintro _ _ ⟨cr,rfl,rfl⟩
 refine Y.m (.c .n) ?_
 refine Y.nt ?_
 refine Y.cond (.t .z) (fun ce=> ?_) (fun ce=> ?_)
 refine Y.region (Y.mv rfl (.s16 (.s16 .g14)) ?_)
 refine Y.cl rfl rfl Tryz.func122 rfl rfl (bT (.t .z)) .n (fun _ _ hs tr=>aBp (tr.ctx h0)) ?_
 rintro _ _ ⟨cf,b1,rfl,rfl⟩
 refine Y.m .n ?_
 refine Y.er (.s16 .g9) (Y.as rfl .z (Y.nt (Y.seq (Y.region (Y.ql rfl (qW rfl bI (.t (.s16 (.s16 .g7))) .g2 aW) (Y.mv rfl (.s16 .g13) (Y.mv rfl .g2 ?_)))))))
 refine Y.es (aD rfl) rfl (esW rfl (.t (.s16 (.s16 (.s16 .g2)))) (.t .g2) .g3 aW rfl rfl) ?_
 refine Y.er (.s16 (.s16 (.s16 .g1))) (Y.as rfl .g1 (Y.er (.s16 (.s16 (.s16 .g1))) (Y.as rfl .g1 (Y.nt (Y.ret ?_)))))
 refine Y.ax [aG (iT aP) aa.inodes [.slice (some ae) aa.inodes.length ab],aG (iT cG) aa.data [.slice ac aa.data.length ad]] (fun l w h=>af _ _ (ag _ _ (h))) ?_
 refine Y.i (mW (cs:= [.slice (some ae) aa.inodes.length ab,.slice ac aa.data.length ad]) rfl (.s16 (.s16 (.s16 .g2))) bI aW (WS.r (cs:= [.slice (some ae) aa.inodes.length ab,.slice ac aa.data.length ad]) .z (fun _ _ h=>h)) .g1 .z) .n ?_
 exact⟨aa,_,_,aj,cf,⟨by first | assumption | omega | decide |(simp <;> omega),by first | assumption | omega | decide |(simp <;> omega),by first | assumption | omega | decide |(simp <;> omega),by first | assumption | omega | decide |(simp <;> omega)⟩,rfl,rfl⟩
 refine Y.skip (Y.g (Y.seq (Y.region (Y.ql rfl (qW rfl bI (.t (.s16 (.s16 .g5))) .g2 aW) (Y.mv rfl (.s16 .g11) (Y.mv rfl (.s16 .g9) ?_))))))
 refine Y.es (aD rfl) rfl (esW rfl (.t (.s16 (.s16 .g16))) (.t .g2) .g3 aW rfl rfl) ?_
 refine Y.er (.s16 (.s16 .g15)) (Y.as rfl .g1 (Y.er (.s16 (.s16 .g15)) (Y.as rfl .g1 (Y.nt (Y.ret ?_)))))
 refine Y.ax [aG (iT aP) aa.inodes [.slice (some ae) aa.inodes.length ab],aG (iT cG) aa.data [.slice ac aa.data.length ad]] (fun l w h=>af _ _ (ag _ _ (h))) ?_
 refine Y.i (mW (cs:= [.slice (some ae) aa.inodes.length ab,.slice ac aa.data.length ad]) rfl (.s16 (.s16 .g16)) bI aW (WS.r (cs:= [.slice (some ae) aa.inodes.length ab,.slice ac aa.data.length ad]) .z (fun _ _ h=>h)) .g1 .z) .n ?_
 exact⟨aa,_,_,aj,a3,⟨by first | assumption | omega | decide |(simp <;> omega),by first | assumption | omega | decide |(simp <;> omega),by first | assumption | omega | decide |(simp <;> omega),by first | assumption | omega | decide |(simp <;> omega)⟩,rfl,rfl⟩
 refine Y.j rfl rfl .z rfl rfl (by decide) rfl ?_
 refine Y.j rfl rfl .g1 rfl rfl (by decide) rfl ?_
 refine Y.j rfl rfl .g2 rfl rfl (by decide) rfl ?_
 refine Y.j rfl rfl .g3 rfl rfl (by decide) rfl ?_
 refine Y.j rfl rfl .g4 rfl rfl (by decide) rfl ?_
 refine Y.j rfl rfl .g5 rfl rfl (by decide) rfl ?_
 refine Y.j rfl rfl .g6 rfl rfl (by decide) rfl ?_
 refine Y.ql rfl (bW rfl (.t .g7) .c) (Y.mv rfl .z ?_)
 refine Y.j rfl rfl .z rfl rfl (by decide) rfl ?_
 refine Y.j rfl rfl .g1 rfl rfl (by decide) rfl ?_
 refine Y.ql rfl (bW rfl (.t .g2) .c) (Y.mv rfl .z ?_)
 refine Y.j rfl rfl .z rfl rfl (by decide) rfl ?_
 refine Y.j rfl rfl .g1 rfl rfl (by decide) rfl ?_
 refine Y.ql rfl (bW rfl (.t .g2) .c) (Y.nt ?_)
 refine Y.ar (.t .z) ?_
 refine Y.skip (Y.g (Y.seq (Y.seq (Y.region (Y.mv rfl (.s16 (.s16 .g6)) ?_)))))
 refine Y.cl rfl rfl Tryz.func87 rfl rfl (aX (.t .z) .c) (.c .z .n) (fun _ _ hs tr=>aAo (tr.ctx h0) _ hs (by omega) (by omega)) ?_
 rintro _ _ ⟨ct,rfl,rfl⟩
 refine Y.m (.c .n) ?_
 refine Y.nt ?_
 refine Y.cond (.t .z) (fun cg=> ?_) (fun cg=> ?_)
 refine Y.region (Y.mv rfl (.s16 (.s16 .g14)) ?_)
 refine Y.cl rfl rfl Tryz.func122 rfl rfl (bT (.t .z)) .n (fun _ _ hs tr=>aBp (tr.ctx h0)) ?_
 rintro _ _ ⟨ch,b2,rfl,rfl⟩
 refine Y.m .n ?_
 refine Y.er (.s16 .g9) (Y.as rfl .z (Y.nt (Y.seq (Y.region (Y.ql rfl (qW rfl bI (.t (.s16 (.s16 .g7))) .g2 aW) (Y.mv rfl (.s16 .g13) (Y.mv rfl .g2 ?_)))))))
 refine Y.es (aD rfl) rfl (esW rfl (.t (.s16 (.s16 (.s16 .g2)))) (.t .g2) .g3 aW rfl rfl) ?_
 refine Y.er (.s16 (.s16 (.s16 .g1))) (Y.as rfl .g1 (Y.er (.s16 (.s16 (.s16 .g1))) (Y.as rfl .g1 (Y.nt (Y.ret ?_)))))
 refine Y.ax [aG (iT aP) aa.inodes [.slice ah aa.inodes.length ab],aG (iT cG) aa.data [.slice ac aa.data.length ad]] (fun l w h=>af _ _ (ag _ _ (h))) ?_
 refine Y.i (mW (cs:= [.slice ah aa.inodes.length ab,.slice ac aa.data.length ad]) rfl (.s16 (.s16 (.s16 .g2))) bI aW (WS.r (cs:= [.slice ah aa.inodes.length ab,.slice ac aa.data.length ad]) .z (fun _ _ h=>h)) .g1 .z) .n ?_
 exact⟨aa,_,_,aj,ch,⟨by first | assumption | omega | decide |(simp <;> omega),by first | assumption | omega | decide |(simp <;> omega),by first | assumption | omega | decide |(simp <;> omega),by first | assumption | omega | decide |(simp <;> omega)⟩,rfl,rfl⟩
 refine Y.skip (Y.g (Y.seq (Y.region (Y.ql rfl (qW rfl bI (.t (.s16 (.s16 .g5))) .g2 aW) (Y.mv rfl (.s16 .g11) (Y.mv rfl (.s16 .g9) ?_))))))
 refine Y.es (aD rfl) rfl (esW rfl (.t (.s16 (.s16 .g16))) (.t .g2) .g3 aW rfl rfl) ?_
 refine Y.er (.s16 (.s16 .g15)) (Y.as rfl .g1 (Y.er (.s16 (.s16 .g15)) (Y.as rfl .g1 (Y.nt (Y.ret ?_)))))
 refine Y.ax [aG (iT aP) aa.inodes [.slice ah aa.inodes.length ab],aG (iT cG) aa.data [.slice ac aa.data.length ad]] (fun l w h=>af _ _ (ag _ _ (h))) ?_
 refine Y.i (mW (cs:= [.slice ah aa.inodes.length ab,.slice ac aa.data.length ad]) rfl (.s16 (.s16 .g16)) bI aW (WS.r (cs:= [.slice ah aa.inodes.length ab,.slice ac aa.data.length ad]) .z (fun _ _ h=>h)) .g1 .z) .n ?_
 exact⟨aa,_,_,aj,a3,⟨by first | assumption | omega | decide |(simp <;> omega),by first | assumption | omega | decide |(simp <;> omega),by first | assumption | omega | decide |(simp <;> omega),by first | assumption | omega | decide |(simp <;> omega)⟩,rfl,rfl⟩

theorem aNq {w0:World}{S0:Bs}{cd:(List UInt8)}{v0:Value} (h0:cX.ro w0 (FF w0 S0) cd [v0]) (hcl:cd.length≤1048576):
    Calls Tryz.prog 31 #[v0] w0 (aJ w0 S0 (fun r l=>∃(f:DFs) (v0_ v1_:Value) (m0:Int) (m1:ByteArray) (m2:Int),(f.inodes.length≤11∧f.data.length≤20∧ -1≤m0∧m0≤12∧m1.size≤140737488351232∧ -1≤m2∧m2≤12)∧r= .tuple #[.agg #[v0_,v1_],.int .i64 m0,.string m1,.int .i64 m2]∧l= [aG (iT aP) f.inodes [v0_],aG (iT cG) f.data [v1_]])):=by
 obtain⟨A0,c0,rfl,au,av,aw,ax⟩:=aH h0
 refine Y.enter (N:=30) Tryz.func31 rfl rfl (by simp) [(0,.slice A0 cd.length c0)] (by simp) (l0:= []) trivial ?_
 refine Y.seq (Y.region ?_)
 refine Y.el rfl (bL rfl nF rfl rfl) ?_
 rintro _ _ ⟨g2,rfl,rfl⟩
 refine Y.ql rfl (aA rfl .c) (Y.ql rfl (aA rfl .c) (Y.ql rfl (aA rfl .c) (Y.nt (Y.seq (Y.region (Y.mv rfl .g4 ?_))))))
 refine Y.cl rfl rfl Tryz.func74 rfl rfl (bT (.t .z)) .n (fun _ _ hs tr=>aN2 (tr.ctx h0) (by omega)) ?_
 rintro _ _ ⟨aa,v4,v6,m8,t9,af,rfl,rfl⟩
 refine Y.m (.c (.c .n)) ?_
 refine Y.h (WS.v .z) ?_
 rintro⟨ab,ac,rfl,ag,ah,ai⟩
 refine Y.h (WS.v .g1) ?_
 rintro⟨ad,ae,rfl,aj,ak,al⟩
 refine Y.mv rfl .z (Y.ql rfl (cC (v:= .agg #[.slice ab aa.inodes.length ac,.slice ad aa.data.length ae]) rfl (.t .z) rfl) (Y.ql rfl (cC (v:= .int .i64 m8) rfl (.t .g1) rfl) (Y.ql rfl (cC (v:= .string t9) rfl (.t .g2) rfl) ?_)))
 refine Y.el rfl (bL rfl nF rfl rfl) ?_
 rintro _ _ ⟨g12,rfl,rfl⟩
 refine Y.es (aD rfl) rfl (esW rfl (.t .z) (.t .g3) .z aW rfl rfl) ?_
 refine Y.as rfl .g2 (Y.as rfl .g2 (Y.nt (Y.seq (Y.region ?_))))
 refine Y.el rfl (aS (cs:= [.int .u8 3]) rfl gV (inz kB) (by decide) (pv1 .c) rfl rfl (by decide) rfl rfl) ?_
 rintro _ _ ⟨g13,rfl,rfl⟩
 refine Y.mv rfl .g14 ?_
 refine Y.v (c:=aG cX ([(3:UInt8)]:(List UInt8)) [.slice (some ⟨g13,0,none⟩) 1 1]) (.c .z .n) (fun w S h=>gK (xs:=([(3:UInt8)]:(List UInt8))) h rfl (by simp) (by omega) (by omega)) ?_
 refine Y.el rfl (eG (bC _ _ _) rfl gV kB rfl (.t .g1) (.t .z) (.c .z .n) (fun w1 S1 tr=>tr.ctx h0) (by first | omega |(simp <;> omega)) (by first | omega |(simp <;> omega))) ?_
 rintro _ _ rfl
 refine Y.h (WS.a .z) ?_
 rintro⟨aq,ar,rfl,am,an,ao⟩
 refine Y.cl rfl rfl Tryz.func40 rfl rfl (bT (.t .z)) .n (fun _ _ hs tr=>aKd (tr.own .z)) ?_
 rintro _ _ ⟨g16,rfl,rfl⟩
 refine Y.m (.c .n) ?_
 refine Y.as rfl .z (Y.nt (Y.seq ?_))
 refine Y.sel (.c .z (.c .z (.c .g1 (.c .g1 (.c .g1 (.c .z .n)))))) ?_
 refine Y.dr .g5 13 gG ?_
 refine Y.sc (qs 0 8++ [(8,false),(9,true),(10,false),(11,true),(12,true),(13,false)]) (by kernel_rfl) ?_
 refine Y.dk rfl rfl .g5 (qW rfl bI (.t .g7) .z aW) (Y.dm rfl rfl .g5 .g7 (Y.dm rfl rfl .g5 .g7 (Y.dm rfl rfl .g5 .g3 (Y.df rfl rfl .g5 .g11 aO (Y.dl rfl rfl .g5 bK .z .z (Y.dk rfl rfl .g5 (bM rfl cE (.t .z)) ?_))))))
 refine Y.dk rfl rfl .g5 (bQ (c:=((aa.inodes.length+2:Nat):Int)) rfl (.t .z) .c (wr (by omega) (by omega) (by omega))) ?_
 refine Y.call (aE rfl rfl) rfl (by decide) rfl (bS rfl Tryz.func42 rfl rfl (aX (.t .g4) (.t .z))) (.c .z .n) (fun _ _ hs tr=>mG (tr.own .z) _ hs (by omega) (by omega)) ?_
 rintro _ _ ⟨ap,h0m17,h1m17,rfl,rfl⟩
 refine Y.m (.c .n) ?_
 refine Y.sk .g5 ?_
 refine Y.dk rfl rfl .g5 (jL (c:=ap - 1) rfl (.t .z) .c (wr (by omega) (by omega) (by omega))) ?_
 refine Y.es (aE rfl rfl) rfl (esW rfl (.t (.s16 .g11)) (.t .g9) .g4 aW rfl rfl) ?_
 refine Y.sk .g5 ?_
 refine Y.er (.s16 .g10) (Y.dk rfl rfl .g5 (aA rfl (.t .g8)) (Y.er (.s16 .g10) (Y.dk rfl rfl .g5 (aA rfl (.t .g8)) (Y.er (.s16 .g10) ?_))))
 refine Y.q (aE rfl rfl) rfl (by decide) rfl (aA rfl (.t .g2)) ?_
 refine Y.sl rfl ?_
 refine Y.aa ?_
 refine Y.ag (by kernel_rfl) ?_
 refine Y.g (Y.ret ?_)
 refine Y.i (aHe (cs:= [.slice ab aa.inodes.length ac,.slice ad aa.data.length ae]) rfl (.s16 .g11) bI aW (WS.r (cs:= [.slice ab aa.inodes.length ac,.slice ad aa.data.length ae]) .z (fun _ _ h=>h)) .g2 .g1 .z) (.c .g3 (.c .g3 .n)) ?_
 exact⟨aa,_,_,m8,t9,ap - 1,⟨by first | assumption | omega | decide |(simp <;> omega),by first | assumption | omega | decide |(simp <;> omega),by first | assumption | omega | decide |(simp <;> omega),by first | assumption | omega | decide |(simp <;> omega),by first | assumption | omega | decide |(simp <;> omega)⟩,rfl,rfl⟩

end Go.Proofs.YtmejbfmhaoilmaaGreat

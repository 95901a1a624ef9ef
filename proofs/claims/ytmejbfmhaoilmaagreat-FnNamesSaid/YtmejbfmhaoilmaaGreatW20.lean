/- What is proved: contracts of functions, one a function. No condition. -/
import Derived.Test.YtmejbfmhaoilmaaGreatBase1
import Derived.Test.YtmejbfmhaoilmaaGreatW11
namespace Go.Proofs.YtmejbfmhaoilmaaGreat
open Go Go.RowKit
set_option linter.unusedVariables false
set_option linter.unusedSimpArgs false
set_option maxHeartbeats 1000000
set_option maxRecDepth 20000
theorem aMi {w0:World}{S0:Bs}{xs:(List (List UInt8))}{v0:Value} (h0:cG.ro w0 (FF w0 S0) xs [v0]) {f:FuncId}{fn:Func} (hfn:Tryz.prog.funcs[f]? =some fn) (hbody:fn.body.isSome=true) (hname:(fn.name == "runtime.NumGoroutine")=false) {p:(List UInt8)→Bool} (hf:∀(w1:World) (S1:Bs) {x:(List UInt8)}{v1:Value},cX.ro w1 (FF w1 S1) x [v1]→Calls Tryz.prog f #[v1] w1 (aJ w1 S1 (fun r l=>r= .bool (p x)∧l= []))):
    Calls Tryz.prog 137 #[v0,.func (.func f) #[] #[]] w0 (aJ w0 S0 (fun r l=>r= .int .i64 (eS p xs)∧l= [])):=by
 obtain⟨A0,c0,rfl,am,an,ao,ag⟩:=aH h0
 refine Y.enter (N:=19) Tryz.func137 rfl rfl (by simp) [(0,.slice A0 xs.length c0),(1,.func (.func f) #[] #[])] (by simp) (l0:= []) trivial ?_
 refine Y.seq (Y.region (Y.ql rfl (aA rfl .c) (Y.nt (Y.seq (Y.seq (Y.region (Y.mv rfl .g1 ?_)))))))
 refine Y.ql rfl (bM rfl mA (.t .z)) (Y.ql rfl (aV rfl .c) (Y.nt (Y.block ?_)))
 refine Y.aj (γ:=Nat) (fun k=> [(8,.int .i64 (k:Int)),(7,.int .i64 (xs.length:Int)),(0,.slice A0 xs.length c0),(1,.func (.func f) #[] #[])]) (fun k=> []) (fun k=>k≤xs.length∧∀j x,j<k→xs[j]? =some x→p x=false) (fun k=>xs.length - k) 0 ⟨Nat.zero_le _,eV (q:=fun _ x=>p x=false)⟩ (.c .z (.c .g1 (.c .g4 (.c .g5 .n)))) (fun _ h=>h) ?_
 rintro k ⟨hk,hallk⟩
 refine Y.seq (Y.region (Y.ql rfl (dJ rfl (.t .z) (.t .g1)) (Y.nt (Y.seq ?_))))
 refine Y.u (.t .z) (fun b2=> ?_) (fun b2=> ?_)
 refine Y.skip (Y.g (Y.seq (Y.block (Y.seq (Y.region (Y.mv rfl .g1 (Y.as rfl .z (Y.nil ?_))))))))
 refine Y.g (Y.seq (Y.region (Y.mv rfl .g6 (Y.mv rfl .g6 (Y.mv rfl .g2 ?_)))))
 obtain⟨ap,ab,ac⟩:=ag (by omega)
 subst ab
 obtain⟨x4,af⟩:=aI (xs:=xs) (j:=k) (by omega)
 obtain⟨ah,aa,ad,ae⟩:=ac.elem af
 obtain⟨aq,rfl⟩:=mD aa
 obtain⟨ar,au,rfl,ai,aj,ak,al⟩:=aH aa
 refine Y.ql rfl (aC (j:=k) rfl mA mC (.t .g1) (.t .z) rfl (by omega)) ?_
 refine Y.ql rfl (aL rfl nL (.t .z) (WS.j ad ae rfl)) ?_
 refine Y.call (aD rfl) rfl (by decide) rfl (sL rfl (.t .g4) hfn hbody hname (bT (.t .z))) .n (fun w1 S1 hs tr=>hf w1 S1 (tr.ctx aa)) ?_
 rintro _ _ ⟨rfl,rfl⟩
 refine Y.m .n ?_
 refine Y.nt ?_
 refine Y.cond (.t .z) (fun b7=> ?_) (fun b7=> ?_)
 refine Y.seq (Y.region (Y.mv rfl .g6 (Y.as rfl .z (Y.nt (Y.ret (Y.y (Y.r ?_)))))))
 refine Y.r (Y.y (Y.r ?_))
 refine Y.i (aY rfl .z) .n ?_
 exact⟨by rw [pL (by assumption) (by assumption) hallk],rfl⟩
 refine Y.skip (Y.ac (Y.g (Y.region ?_)))
 refine Y.ql rfl (bQ (c:=((k+1:Nat):Int)) rfl (.t .g9) .c (wr (by omega) (by omega) (by omega))) ?_
 refine Y.er .g10 (Y.mv rfl .z (Y.nil ?_))
 refine Y.ae (k+1) ⟨by omega,eM (q:=fun _ x=>p x=false) hallk af b7⟩ (by first | omega |(dsimp only;omega)) (.c .z (.c .g11 (.c .g12 (.c .g13 .n)))) (fun _ h=>h)
 refine Y.exit (Y.ab (Y.ab (Y.ai (Y.g (Y.seq (Y.region (Y.ql rfl (aA rfl .c) (Y.nil ?_))))))))
 refine Y.g (Y.ret ?_)
 refine Y.i (aY rfl .z) .n ?_
 exact⟨by rw [pN (fun j x hx=>hallk j x (by have:=(List.getElem?_eq_some_iff.1 hx).1;omega) hx)],rfl⟩

theorem aOj {w0:World}{S0:Bs}{b:(List UInt8)}{v0:Value} (h0:cX.ro w0 (FF w0 S0) b [v0]):
    Calls Tryz.prog 96 #[v0] w0 (aJ w0 S0 (fun r l=>r= .bool (decide ((8:Int)<(b.length:Int)))∧l= [])):=by
 obtain⟨A0,c0,rfl,hl0,hm0,hb0,he0⟩:=aH h0
 refine Y.enter (N:=6) Tryz.func96 rfl rfl (by simp) [(0,.slice A0 b.length c0)] (by simp) (l0:= []) trivial ?_
 refine Y.seq (Y.region (Y.ql rfl (aA rfl .c) (Y.nt (Y.seq (Y.region (Y.mv rfl .g1 (Y.ql rfl (bM rfl gV (.t .z)) ?_)))))))
 refine Y.ql rfl (gO rfl (.t .z) .c) (Y.er .g3 (Y.as rfl .z (Y.nt (Y.ret ?_))))
 refine Y.i (aY rfl .z) .n ?_
 exact⟨rfl,rfl⟩

theorem aNn {w0:World}{S0:Bs}{xs:(List (List UInt8))}{v0:Value} (h0:cG.ro w0 (FF w0 S0) xs [v0]) {f:FuncId}{fn:Func} (hfn:Tryz.prog.funcs[f]? =some fn) (hbody:fn.body.isSome=true) (hname:(fn.name == "runtime.NumGoroutine")=false) {p:(List UInt8)→Bool} (hf:∀(w1:World) (S1:Bs) {x:(List UInt8)}{v1:Value},cX.ro w1 (FF w1 S1) x [v1]→Calls Tryz.prog f #[v1] w1 (aJ w1 S1 (fun r l=>r= .bool (p x)∧l= []))):
    Calls Tryz.prog 95 #[v0,.func (.func f) #[] #[]] w0 (aJ w0 S0 (fun r l=>r= .bool (xs.any p)∧l= [])):=by
 obtain⟨A0,c0,rfl,hl0,hm0,hb0,he0⟩:=aH h0
 refine Y.enter (N:=9) Tryz.func95 rfl rfl (by simp) [(0,.slice A0 xs.length c0),(1,.func (.func f) #[] #[])] (by simp) (l0:= []) trivial ?_
 refine Y.seq (Y.region (Y.ql rfl (aA rfl .c) (Y.nt (Y.seq (Y.region (Y.mv rfl .g1 (Y.mv rfl .g3 ?_)))))))
 refine Y.cl rfl rfl Tryz.func137 rfl rfl (aX (.t .g1) (.t .z)) .n (fun _ _ hs tr=>aMi (tr.ctx h0) hfn hbody hname (fun w2 S2 x _ h1=>hf w2 S2 h1)) ?_
 rintro _ _ ⟨rfl,rfl⟩
 refine Y.m .n ?_
 refine Y.ql rfl (lU rfl (.t .z) .c) (Y.er .g4 (Y.as rfl .z (Y.nt (Y.ret ?_))))
 refine Y.i (aY rfl .z) .n ?_
 exact⟨by rw [xP],rfl⟩

theorem aOa {w0:World}{S0:Bs}{f:DFs}{az:List Value} (h0:eU.ro w0 (FF w0 S0) f az):
    Calls Tryz.prog 94 #[.agg az.toArray] w0 (aJ w0 S0 (fun r l=>r= .int .i64 (gF f)∧l= [])):=by
 obtain⟨bd,be,rfl,aa,ak⟩:=cY h0
 obtain⟨ab,ac,rfl,a0,a1,a2,ad⟩:=aH aa
 obtain⟨ae,af,rfl,a3,a4,a5,a6⟩:=aH ak
 refine Y.enter (N:=28) Tryz.func94 rfl rfl (by simp) [(0,.agg #[.slice ab f.inodes.length ac,.slice ae f.data.length af])] (by simp) (l0:= []) trivial ?_
 refine Y.seq (Y.region ?_)
 refine Y.el rfl (fT (cs:= [.slice ab f.inodes.length ac,.slice ae f.data.length af]) (n:=2) rfl (.t .z) rfl rfl) ?_
 rintro _ _ ⟨g3,rfl,rfl⟩
 refine Y.ql rfl (aA rfl .c) (Y.nt (Y.seq (Y.seq (Y.region (Y.fa rfl .g1 aO (Y.ld rfl bK .z .z ?_))))))
 refine Y.cl rfl rfl Tryz.func83 rfl rfl (bT (.t .z)) .n (fun _ _ hs tr=>aM2 (tr.ctx aa)) ?_
 rintro _ _ ⟨rfl,rfl⟩
 refine Y.m .n ?_
 refine Y.as rfl .z (Y.nt (Y.seq (Y.region (Y.mv rfl .z (Y.ql rfl (cU rfl (.t .z) .c) (Y.nt ?_))))))
 refine Y.ad (.t .z) (fun b4=> ?_) (fun b4=> ?_)
 refine Y.seq (Y.region (Y.mv rfl .g2 (Y.er .g7 (Y.as rfl .z (Y.nt (Y.ret (Y.r ?_)))))))
 refine Y.i (aY rfl .z) .n ?_
 exact⟨by first |(rw [eA (by assumption)];done) |(rw [dZ (by assumption) (by omega)];done) |(rw [cN (by assumption) (by omega) (by omega) (by omega)];done),rfl⟩
 refine Y.skip (Y.g (Y.seq (Y.seq (Y.region (Y.fa rfl .g7 aO (Y.ld rfl bK .z .z (Y.ql rfl (bM rfl cE (.t .z)) (Y.ql rfl (bZ rfl (.t .z) .c) ?_))))))))
 refine Y.mv rfl .z ?_
 refine Y.al .z (fun g5=> ?_) (fun g5=> ?_)
 refine Y.j rfl rfl .z rfl rfl (by decide) rfl ?_
 refine Y.j rfl rfl .g1 rfl rfl (by decide) rfl ?_
 refine Y.j rfl rfl .g2 rfl rfl (by decide) rfl ?_
 refine Y.j rfl rfl .g3 rfl rfl (by decide) rfl ?_
 refine Y.j rfl rfl .g4 rfl rfl (by decide) rfl ?_
 refine Y.j rfl rfl .g5 rfl rfl (by decide) rfl ?_
 refine Y.ql rfl (bO rfl (.t .g6) .c) (Y.mv rfl .z ?_)
 refine Y.j rfl rfl .z rfl rfl (by decide) rfl ?_
 refine Y.j rfl rfl .g1 rfl rfl (by decide) rfl ?_
 refine Y.j rfl rfl .g2 rfl rfl (by decide) rfl ?_
 refine Y.j rfl rfl .g3 rfl rfl (by decide) rfl ?_
 refine Y.ql rfl (bO rfl (.t .g4) .c) (Y.nt ?_)
 refine Y.ao (.t .z) ?_
 refine Y.seq (Y.region (Y.er (.s16 .g8) (Y.ql rfl (aA rfl .c) (Y.nt (Y.ret (Y.r ?_))))))
 refine Y.i (aY rfl .z) .n ?_
 exact⟨by first |(rw [eA (by assumption)];done) |(rw [dZ (by assumption) (by omega)];done) |(rw [cN (by assumption) (by omega) (by omega) (by omega)];done),rfl⟩
 refine Y.qg rfl rfl .z rfl rfl rfl (aK rfl (.t .g12) (fun _=>aO _ _)) ?_
 refine Y.qg rfl rfl .g1 rfl rfl rfl (aL rfl bK (.t .z) (WS.g .z rfl)) ?_
 obtain⟨bh,ag,ah⟩:=ad (by omega)
 subst ag
 obtain⟨x7,al⟩:=aI (xs:=f.inodes) (j:=0) (by omega)
 obtain⟨bf,am,an,ao⟩:=ah.elem al
 obtain⟨a7,a8,rfl,ai,aj⟩:=cK am
 obtain⟨a9,ba,rfl,ap,aq,ar,au⟩:=aH ai
 obtain⟨bb,bc,rfl,av,aw,ax,ay⟩:=aH aj
 have bi:=cH (i:=0) al (by omega)
 have bj:=cI (a:=0) al (by omega)
 refine Y.qg rfl rfl .g2 rfl rfl rfl (aC (j:=0) rfl cE aU (.t .z) .c rfl (by omega)) ?_
 refine Y.qg rfl rfl .g3 rfl rfl rfl (aK rfl (.t .z) (fun _=>cV _ _)) ?_
 refine Y.qg rfl rfl .g4 rfl rfl rfl (aL rfl cF (.t .z) (WS.el an ao rfl)) ?_
 refine Y.qg rfl rfl .g5 rfl rfl rfl (cU rfl (.t .z) .c) ?_
 refine Y.ql rfl (bW rfl (.t .g6) (.t .z)) (Y.mv rfl .z ?_)
 refine Y.ap .z (fun g11=> ?_) (fun g11=> ?_)
 refine Y.j rfl rfl .z rfl rfl (by decide) rfl ?_
 refine Y.j rfl rfl .g1 rfl rfl (by decide) rfl ?_
 refine Y.j rfl rfl .g2 rfl rfl (by decide) rfl ?_
 refine Y.j rfl rfl .g3 rfl rfl (by decide) rfl ?_
 refine Y.ql rfl (bO rfl (.t .g4) .c) (Y.nt ?_)
 refine Y.ao (.t .z) ?_
 refine Y.seq (Y.region (Y.er (.s16 .g8) (Y.ql rfl (aA rfl .c) (Y.nt (Y.ret (Y.r ?_))))))
 refine Y.i (aY rfl .z) .n ?_
 exact⟨by first |(rw [eA (by assumption)];done) |(rw [dZ (by assumption) (by omega)];done) |(rw [cN (by assumption) (by omega) (by omega) (by omega)];done),rfl⟩
 refine Y.qg rfl rfl .z rfl rfl rfl (aK rfl (.t (.s16 .g4)) (fun _=>gR _ _)) ?_
 refine Y.qg rfl rfl .g1 rfl rfl rfl (aL rfl lM (.t .z) (WS.g .z rfl)) ?_
 refine Y.qg rfl rfl .g2 rfl rfl rfl (bM rfl mA (.t .z)) ?_
 refine Y.qg rfl rfl .g3 rfl rfl rfl (cU rfl (.t .z) .c) ?_
 refine Y.ql rfl (bW rfl (.t .g4) (.t .z)) (Y.nt ?_)
 refine Y.ad (.t .z) (fun bg=> ?_) (fun bg=> ?_)
 refine Y.seq (Y.region (Y.er (.s16 .g8) (Y.ql rfl (aA rfl .c) (Y.nt (Y.ret (Y.r ?_))))))
 refine Y.i (aY rfl .z) .n ?_
 exact⟨by first |(rw [eA (by assumption)];done) |(rw [dZ (by assumption) (by omega)];done) |(rw [cN (by assumption) (by omega) (by omega) (by omega)];done),rfl⟩
 refine Y.skip (Y.g (Y.seq (Y.region (Y.er (.s16 .g8) (Y.ql rfl (aA rfl .c) (Y.nt (Y.ret ?_)))))))
 refine Y.i (aY rfl .z) .n ?_
 exact⟨by first |(rw [eA (by assumption)];done) |(rw [dZ (by assumption) (by omega)];done) |(rw [cN (by assumption) (by omega) (by omega) (by omega)];done),rfl⟩

theorem aNv {w0:World}{S0:Bs}{f:DFs}{b7:List Value} (h0:eU.ro w0 (FF w0 S0) f b7):
    Calls Tryz.prog 50 #[.agg b7.toArray] w0 (aJ w0 S0 (fun r l=>r= .int .i64 (bX f)∧l= [])):=by
 obtain⟨ck,cm,rfl,ah,an⟩:=cY h0
 obtain⟨ai,ab,rfl,b8,b9,ca,a0⟩:=aH ah
 obtain⟨aj,ak,rfl,cb,cc,cd,ce⟩:=aH an
 refine Y.enter (N:=58) Tryz.func50 rfl rfl (by simp) [(0,.agg #[.slice ai f.inodes.length ab,.slice aj f.data.length ak])] (by simp) (l0:= []) trivial ?_
 refine Y.seq (Y.region ?_)
 refine Y.el rfl (fT (cs:= [.slice ai f.inodes.length ab,.slice aj f.data.length ak]) (n:=2) rfl (.t .z) rfl rfl) ?_
 rintro _ _ ⟨g3,rfl,rfl⟩
 refine Y.ql rfl (aA rfl .c) (Y.nt (Y.seq (Y.seq (Y.region (Y.ql rfl (qW rfl bI (.t .g1) .z aW) ?_)))))
 refine Y.cl rfl rfl Tryz.func94 rfl rfl (bT (.t .z)) .n (fun _ _ hs tr=>aOa (aM f (tr.ctx ah) (tr.ctx an))) ?_
 rintro _ _ ⟨rfl,rfl⟩
 refine Y.m .n ?_
 refine Y.as rfl .z (Y.nt (Y.seq (Y.region (Y.mv rfl .z (Y.ql rfl (cU rfl (.t .z) .c) (Y.nt ?_))))))
 refine Y.ad (.t .z) (fun b4=> ?_) (fun b4=> ?_)
 refine Y.seq (Y.region (Y.mv rfl .g2 (Y.er .g6 (Y.as rfl .z (Y.nt (Y.ret (Y.r ?_)))))))
 refine Y.i (aY rfl .z) .n ?_
 exact⟨by first |(rw [dW (by assumption)];done) |(rw [fK (by assumption) (by assumption)];done) |(rw [fL (by assumption) (by assumption) (by assumption)];done) |(rw [fD (by assumption) (by assumption) (by assumption) (jI (fun j x hj hx=>hallk j x (by omega) hx))];done),rfl⟩
 have a1:=(tA b4).1
 refine Y.skip (Y.g (Y.seq (Y.seq (Y.region (Y.fa rfl .g6 gR (Y.ld rfl lM .z .z ?_))))))
 refine Y.cl rfl rfl Tryz.func95 rfl rfl (aX (.t .z) .f) .n (fun _ _ hs tr=>aNn (tr.ctx an) Tryz.func96 rfl rfl (fun w2 S2 x _ h1=>aOj h1)) ?_
 rintro _ _ ⟨rfl,rfl⟩
 refine Y.m .n ?_
 refine Y.nt ?_
 refine Y.cond (.t .z) (fun b6=> ?_) (fun b6=> ?_)
 refine Y.seq (Y.region (Y.er .g8 (Y.ql rfl (aA rfl .c) (Y.nt (Y.ret (Y.r ?_))))))
 refine Y.i (aY rfl .z) .n ?_
 exact⟨by first |(rw [dW (by assumption)];done) |(rw [fK (by assumption) (by assumption)];done) |(rw [fL (by assumption) (by assumption) (by assumption)];done) |(rw [fD (by assumption) (by assumption) (by assumption) (jI (fun j x hj hx=>hallk j x (by omega) hx))];done),rfl⟩
 refine Y.skip (Y.g (Y.seq (Y.seq (Y.region (Y.fa rfl .g9 aO (Y.ld rfl bK .z .z ?_))))))
 refine Y.cl rfl rfl Tryz.func97 rfl rfl (bT (.t .z)) .n (fun _ _ hs tr=>aOc (tr.ctx ah) (by first | assumption |(exact aGr (by assumption)))) ?_
 rintro _ _ ⟨v7,rfl,rfl⟩
 refine Y.m (.c .n) ?_
 refine Y.h (WS.a .z) ?_
 rintro⟨bt,bu,rfl,cn,co,cp⟩
 refine Y.mv rfl .z (Y.ql rfl (cC (v:= .slice bt (kV (gD f.inodes)).length bu) rfl (.t .z) rfl) (Y.ql rfl (cC (v:= .bool (decide (gD f.inodes).Nodup)) rfl (.t .g1) rfl) (Y.as rfl .g1 (Y.as rfl .g1 (Y.nt (Y.seq (Y.region ?_)))))))
 refine Y.mv rfl .z (Y.ql rfl (fN rfl (.t .z)) (Y.nt ?_))
 refine Y.ad (.t .z) (fun cq=> ?_) (fun cq=> ?_)
 refine Y.seq (Y.region (Y.er (.s16 .g2) (Y.ql rfl (aA rfl .c) (Y.nt (Y.ret (Y.r ?_))))))
 refine Y.i (aY rfl .z) .n ?_
 exact⟨by first |(rw [dW (by assumption)];done) |(rw [fK (by assumption) (by assumption)];done) |(rw [fL (by assumption) (by assumption) (by assumption)];done) |(rw [fD (by assumption) (by assumption) (by assumption) (jI (fun j x hj hx=>hallk j x (by omega) hx))];done),rfl⟩
 refine Y.skip (Y.g (Y.seq (Y.seq (Y.region (Y.fa rfl (.s16 .g3) aO (Y.ld rfl bK .z .g1 (Y.ql rfl (bM rfl cE (.t .z)) (Y.ql rfl (aV rfl .c) ?_))))))))
 refine Y.nt (Y.block ?_)
 refine Y.aj (γ:=Nat) (fun k=> [(29,.int .i64 (k:Int)),(28,.int .i64 (f.inodes.length:Int)),(27,.slice ai f.inodes.length ab),(1,.pointer (some ⟨g3,0,none⟩))]) (fun k=> [aG bY (kV (gD f.inodes)) [.slice bt (kV (gD f.inodes)).length bu],cM g3 27 2 1 [.slice ai f.inodes.length ab,.slice aj f.data.length ak]]) (fun k=>k≤f.inodes.length∧∀j x,j<k→f.inodes[j]? =some x→uP f.inodes x) (fun k=>f.inodes.length - k) 0 ⟨Nat.zero_le _,eV (q:=fun _ x=>uP f.inodes x)⟩ (.c .z (.c .g1 (.c .g2 (.c (.s16 .g7) .n)))) (fun _ h=>h.sel (.c .z (.c .z .n))) ?_
 rintro k ⟨hk,hallk⟩
 refine Y.seq (Y.region (Y.ql rfl (dJ rfl (.t .z) (.t .g1)) (Y.nt (Y.seq ?_))))
 refine Y.u (.t .z) (fun cr=> ?_) (fun cr=> ?_)
 refine Y.skip (Y.g (Y.seq (Y.block (Y.seq (Y.region ?_)))))
 obtain⟨a2,ao,ac⟩:=a0 (by omega)
 subst ao
 obtain⟨ad,aa⟩:=aI (xs:=f.inodes) (j:=k) (by omega)
 obtain⟨cf,a3,a4,a5⟩:=ac.elem aa
 obtain⟨bv,bw,rfl,ap,aq⟩:=cK a3
 obtain⟨ar,au,rfl,bd,be,bf,bg⟩:=aH ap
 obtain⟨ae,af,rfl,bh,bi,bj,al⟩:=aH aq
 have ct:=cH (i:=((k:Nat):Int)) aa (by omega)
 have cu:=cI (a:=((k:Nat):Int)) aa (by omega)
 have a6:=dT a1 _ (List.mem_of_getElem? aa)
 refine Y.ql rfl (aC (j:=k) rfl cE aU (.t .g3) (.t .g1) rfl (by omega)) ?_
 refine Y.ql rfl (qE rfl fG (.t .z) a4 a5 aU) ?_
 refine Y.el rfl (bL rfl tB rfl rfl) ?_
 rintro _ _ ⟨g17,rfl,rfl⟩
 refine Y.es (aD rfl) rfl (esW rfl (.t .z) (.t .g1) .z aU rfl rfl) ?_
 refine Y.nt (Y.seq (Y.region (Y.fa rfl .z bE (Y.ld rfl dP .z .z (Y.ql rfl (bM rfl cZ (.t .z)) (Y.ql rfl (aV rfl .c) (Y.nil ?_)))))))
 refine Y.g (Y.block ?_)
 refine Y.aj (γ:=Nat) (fun q=> [(36,.int .i64 (q:Int)),(35,.int .i64 (ad.ents.length:Int)),(34,.slice ae ad.ents.length af),(29,.int .i64 (k:Int)),(28,.int .i64 (f.inodes.length:Int)),(27,.slice (some a2) f.inodes.length ab),(1,.pointer (some ⟨g3,0,none⟩))]) (fun q=> [cM g17 44 5 1 [.int .i64 ad.kind,.int .i64 ad.links,.int .i64 ad.size,.slice ar ad.blocks.length au,.slice ae ad.ents.length af],aG bY (kV (gD f.inodes)) [.slice bt (kV (gD f.inodes)).length bu],cM g3 27 2 1 [.slice (some a2) f.inodes.length ab,.slice aj f.data.length ak]]) (fun q=>q≤ad.ents.length∧∀j e,j<q→ad.ents[j]? =some e→¬pF f.inodes e) (fun q=>ad.ents.length - q) 0 ⟨Nat.zero_le _,eV (q:=fun _ e=>¬pF f.inodes e)⟩ (.c .z (.c .g1 (.c .g2 (.c .g8 (.c .g9 (.c .g10 (.c .g11 .n))))))) (fun _ h=>h.sel (.c .z (.c .z (.c .z .n)))) ?_
 rintro q ⟨hq,hallq⟩
 refine Y.seq (Y.region (Y.ql rfl (dJ rfl (.t .z) (.t .g1)) (Y.nt (Y.seq ?_))))
 refine Y.u (.t .z) (fun cv=> ?_) (fun cv=> ?_)
 refine Y.skip (Y.g (Y.seq (Y.block (Y.seq (Y.region ?_)))))
 obtain⟨cw,av,aw⟩:=al (by omega)
 subst av
 obtain⟨ax,ag⟩:=aI (xs:=ad.ents) (j:=q) (by omega)
 obtain⟨cg,a7,a8,a9⟩:=aw.elem ag
 obtain⟨rfl,bx⟩:=eR a7
 have ch:=nN a6 _ _ ag
 refine Y.ql rfl (aC (j:=q) rfl cZ dV (.t .g3) (.t .g1) rfl (by omega)) ?_
 refine Y.ql rfl (qE rfl pU (.t .z) a8 a9 dV) ?_
 refine Y.el rfl (bL rfl aFx rfl rfl) ?_
 rintro _ _ ⟨g22,rfl,rfl⟩
 refine Y.es (aD rfl) rfl (esW rfl (.t .z) (.t .g1) .z dV rfl rfl) ?_
 refine Y.nt (Y.seq ?_)
 refine Y.sel (.c .g2 (.c .z (.c .z (.c .z .n)))) ?_
 refine Y.dr .g1 16 gG ?_
 refine Y.sc (qs 0 4++ [(4,false),(5,true),(6,true)]) (by kernel_rfl) ?_
 refine Y.df rfl rfl .g1 .z iX (Y.dl rfl rfl .g1 cF .z .z (Y.df rfl rfl .g1 .g12 aO (Y.dl rfl rfl .g1 bK .z .g2 ?_)))
 refine Y.call (aE rfl rfl) rfl (by decide) rfl (bS rfl Tryz.func85 rfl rfl (bT (.t .z))) .n (fun _ _ hs tr=>aJn (tr.ctx ah)) ?_
 rintro _ _ ⟨rfl,rfl⟩
 refine Y.m .n ?_
 refine Y.sk .g1 ?_
 refine Y.dk rfl rfl .g1 (lU rfl (.t .g3) (.t .z)) (Y.dm rfl rfl .g1 .z (Y.aa ?_))
 refine Y.al .z (fun g23=> ?_) (fun g23=> ?_)
 refine Y.sc (qs 7 9) (by kernel_rfl) ?_
 refine Y.am rfl rfl rfl .z rfl rfl (by decide) rfl .g1 ?_
 refine Y.am rfl rfl rfl .g1 rfl rfl (by decide) rfl .g1 ?_
 refine Y.am rfl rfl rfl .g2 rfl rfl (by decide) rfl .g1 ?_
 refine Y.am rfl rfl rfl .g3 rfl rfl (by decide) rfl .g1 ?_
 refine Y.am rfl rfl rfl .g4 rfl rfl (by decide) rfl .g1 ?_
 refine Y.am rfl rfl rfl .g5 rfl rfl (by decide) rfl .g1 ?_
 refine Y.am rfl rfl rfl .g6 rfl rfl (by decide) rfl .g1 ?_
 refine Y.am rfl rfl rfl .g7 rfl rfl (by decide) rfl .g1 ?_
 refine Y.dk rfl rfl .g1 (bO rfl (.t .g8) .c) (Y.aa ?_)
 refine Y.ag (by kernel_rfl) ?_
 refine Y.g ?_
 refine Y.ao (.t .z) ?_
 refine Y.seq (Y.region (Y.ql rfl (aA rfl .c) (Y.nt (Y.ret (Y.y (Y.r (Y.r ?_)))))))
 refine Y.y (Y.y (Y.r (Y.r (Y.y (Y.r ?_)))))
 refine Y.i (aY rfl .z) .n ?_
 exact⟨by first |(rw [dW (by assumption)];done) |(rw [fK (by assumption) (by assumption)];done) |(rw [fL (by assumption) (by assumption) (by assumption)];done) |(rw [pB (by assumption) (by assumption) (by assumption) (rO aa ag (by first | exact pY (by assumption) |(show aR f.inodes ax.ino=0;omega)))];done) |(rw [fD (by assumption) (by assumption) (by assumption) (jI (fun j x hj hx=>hallk j x (by omega) hx))];done),rfl⟩
 refine Y.sc (qs 7 9) (by kernel_rfl) ?_
 refine Y.ah rfl rfl rfl .z rfl (by decide) rfl .g1 (aK rfl (.t (.s16 .g1)) (fun _=>aO _ _)) ?_
 refine Y.ah rfl rfl rfl .g1 rfl (by decide) rfl .g1 (aL rfl bK (.t .z) (WS.g .g2 rfl)) ?_
 refine Y.ah rfl rfl rfl .g2 rfl (by decide) rfl .g1 (aK rfl (.t .g9) (fun _=>iX _ _)) ?_
 refine Y.ah rfl rfl rfl .g3 rfl (by decide) rfl .g1 (aL rfl cF (.t .z) (WS.g .z rfl)) ?_
 obtain⟨c0,am⟩:=aI (xs:=f.inodes) (j:=Int.toNat ax.ino) (by omega)
 obtain⟨ci,ba,bb,bc⟩:=ac.elem am
 obtain⟨bz,b0,rfl,ay,az⟩:=cK ba
 obtain⟨b1,b2,rfl,bk,bm,bn,bo⟩:=aH ay
 obtain⟨b3,b5,rfl,bp,bq,br,bs⟩:=aH az
 have cx:=cH (i:=ax.ino) am (by omega)
 have cy:=cI (a:=ax.ino) am (by omega)
 have cj:=dT a1 _ (List.mem_of_getElem? am)
 refine Y.ah rfl rfl rfl .g4 rfl (by decide) rfl .g1 (aC (j:=Int.toNat ax.ino) rfl cE aU (.t .g2) (.t .z) (by omega) (by omega)) ?_
 refine Y.ah rfl rfl rfl .g5 rfl (by decide) rfl .g1 (aK rfl (.t .z) (fun _=>cV _ _)) ?_
 refine Y.ah rfl rfl rfl .g6 rfl (by decide) rfl .g1 (aL rfl cF (.t .z) (WS.el bb bc rfl)) ?_
 refine Y.ah rfl rfl rfl .g7 rfl (by decide) rfl .g1 (bZ rfl (.t .z) .c) ?_
 refine Y.dk rfl rfl .g1 (bW rfl (.t .g8) (.t .z)) (Y.aa ?_)
 refine Y.ag (by kernel_rfl) ?_
 refine Y.g ?_
 refine Y.u (.t .z) (fun cz=> ?_) (fun cz=> ?_)
 refine Y.seq (Y.region (Y.ql rfl (aA rfl .c) (Y.nt (Y.ret (Y.y (Y.r (Y.r ?_)))))))
 refine Y.y (Y.y (Y.r (Y.r (Y.y (Y.r ?_)))))
 refine Y.i (aY rfl .z) .n ?_
 exact⟨by first |(rw [dW (by assumption)];done) |(rw [fK (by assumption) (by assumption)];done) |(rw [fL (by assumption) (by assumption) (by assumption)];done) |(rw [pB (by assumption) (by assumption) (by assumption) (rO aa ag (by first | exact pY (by assumption) |(show aR f.inodes ax.ino=0;omega)))];done) |(rw [fD (by assumption) (by assumption) (by assumption) (jI (fun j x hj hx=>hallk j x (by omega) hx))];done),rfl⟩
 refine Y.skip (Y.ac (Y.g (Y.region ?_)))
 refine Y.ql rfl (bQ (c:=((q+1:Nat):Int)) rfl (.t (.s16 .g4)) .c (wr (by omega) (by omega) (by omega))) ?_
 refine Y.er (.s16 .g5) (Y.mv rfl .z (Y.nil ?_))
 refine Y.ae (q+1) ⟨by omega,eM (q:=fun _ e=>¬pF f.inodes e) hallq ag (fun hb=>by have hbb:aR f.inodes ax.ino=0:=hb;omega)⟩ (by first | omega |(dsimp only;omega)) (.c .z (.c (.s16 .g6) (.c (.s16 .g7) (.c (.s16 .g8) (.c (.s16 .g9) (.c (.s16 .g10) (.c (.s16 .g11) .n))))))) (fun _ h=>h.sel (.c .g2 (.c .z (.c .g1 .n))))
 refine Y.exit (Y.ab (Y.ab (Y.ai (Y.ac (Y.g (Y.region ?_))))))
 refine Y.ql rfl (bQ (c:=((k+1:Nat):Int)) rfl (.t .g4) .c (wr (by omega) (by omega) (by omega))) ?_
 refine Y.er .g5 (Y.mv rfl .z (Y.nil ?_))
 refine Y.ae (k+1) ⟨by omega,eM (q:=fun _ x=>uP f.inodes x) hallk aa (fun j e he=>hallq j e (by have:=(List.getElem?_eq_some_iff.1 he).1;omega) he)⟩ (by first | omega |(dsimp only;omega)) (.c .z (.c .g6 (.c .g7 (.c .g8 .n)))) (fun _ h=>h.sel (.c .g1 (.c .g1 .n)))
 refine Y.exit (Y.ab (Y.ab (Y.ai (Y.g (Y.seq (Y.region (Y.ql rfl (aA rfl .c) (Y.nil ?_))))))))
 refine Y.g (Y.ret ?_)
 refine Y.i (aY rfl .z) .n ?_
 exact⟨by first |(rw [dW (by assumption)];done) |(rw [fK (by assumption) (by assumption)];done) |(rw [fL (by assumption) (by assumption) (by assumption)];done) |(rw [fD (by assumption) (by assumption) (by assumption) (jI (fun j x hj hx=>hallk j x (by omega) hx))];done),rfl⟩

theorem aNg {w0:World}{S0:Bs}{f:DFs}{az:Addr} (h0:gP eU w0 (FF w0 S0) az f):
    Calls Tryz.prog 52 #[.pointer (some az)] w0 (aJ w0 S0 (fun r l=>r= .int .i64 (bX f)∧l= [])):=by
 obtain⟨ec,ab,dg,ac⟩:=id h0
 obtain⟨dh,di,rfl,ak,bx⟩:=cY dg
 obtain⟨dj,dp,rfl,cp,cq,cr,a0⟩:=aH ak
 obtain⟨ds,dt,rfl,cs,ct,cu,a1⟩:=aH bx
 refine Y.enter (N:=122) Tryz.func52 rfl rfl (by simp) [(0,.pointer (some az))] (by simp) (l0:= []) trivial ?_
 refine Y.seq (Y.region (Y.ql rfl (aA rfl .c) (Y.nt (Y.seq (Y.seq (Y.region (Y.mv rfl .g1 ?_)))))))
 refine Y.nc rfl .z (Y.fa rfl .z aO (Y.le rfl bK .z ab ac ?_))
 refine Y.cl rfl rfl Tryz.func98 rfl rfl (bT (.t .z)) .n (fun _ _ hs tr=>aL3 (tr.ctx ak)) ?_
 rintro _ _ ⟨rfl,rfl⟩
 refine Y.m .n ?_
 refine Y.as rfl .z (Y.nt (Y.seq (Y.region (Y.mv rfl .z (Y.ql rfl (cU rfl (.t .z) .c) (Y.nt ?_))))))
 refine Y.ad (.t .z) (fun b3=> ?_) (fun b3=> ?_)
 refine Y.seq (Y.region (Y.mv rfl .g2 (Y.er .g9 (Y.as rfl .z (Y.nt (Y.ret (Y.r ?_)))))))
 refine Y.i (aY rfl .z) .n ?_
 exact⟨by first |(rw [dW (by rw [eA (by assumption)];assumption),eA (by assumption)];done) |(rw [dW (by rw [dZ (by assumption) (by omega)];decide),dZ (by assumption) (by omega)];done) |(rw [fK (cN (by assumption) (by omega) (by omega) (by omega)) (by assumption)];done) |(rw [fL (cN (by assumption) (by omega) (by omega) (by omega)) (gX (fun j b hj hb=>hallz j b (by omega) hb)) (by assumption)];done) |(rw [fD (cN (by assumption) (by omega) (by omega) (by omega)) (gX (fun j b hj hb=>hallz j b (by omega) hb)) (by assumption) (jI (fun j x hj hx=>hallk j x (by omega) hx))];done),rfl⟩
 refine Y.skip (Y.g (Y.seq (Y.seq (Y.region (Y.mv rfl .g9 (Y.nc rfl .z (Y.fa rfl .z aO (Y.le rfl bK .z ab ac ?_))))))))
 refine Y.ql rfl (bM rfl cE (.t .z)) (Y.ql rfl (bZ rfl (.t .z) .c) (Y.mv rfl .z ?_))
 refine Y.al .z (fun g4=> ?_) (fun g4=> ?_)
 refine Y.j rfl rfl .z rfl rfl (by decide) rfl ?_
 refine Y.j rfl rfl .g1 rfl rfl (by decide) rfl ?_
 refine Y.j rfl rfl .g2 rfl rfl (by decide) rfl ?_
 refine Y.j rfl rfl .g3 rfl rfl (by decide) rfl ?_
 refine Y.j rfl rfl .g4 rfl rfl (by decide) rfl ?_
 refine Y.j rfl rfl .g5 rfl rfl (by decide) rfl ?_
 refine Y.j rfl rfl .g6 rfl rfl (by decide) rfl ?_
 refine Y.j rfl rfl .g7 rfl rfl (by decide) rfl ?_
 refine Y.ql rfl (bO rfl (.t .g8) .c) (Y.mv rfl .z ?_)
 refine Y.j rfl rfl .z rfl rfl (by decide) rfl ?_
 refine Y.j rfl rfl .g1 rfl rfl (by decide) rfl ?_
 refine Y.j rfl rfl .g2 rfl rfl (by decide) rfl ?_
 refine Y.j rfl rfl .g3 rfl rfl (by decide) rfl ?_
 refine Y.j rfl rfl .g4 rfl rfl (by decide) rfl ?_
 refine Y.j rfl rfl .g5 rfl rfl (by decide) rfl ?_
 refine Y.ql rfl (bO rfl (.t .g6) .c) (Y.nt ?_)
 refine Y.ao (.t .z) ?_
 refine Y.seq (Y.region (Y.er (.s16 .g16) (Y.ql rfl (aA rfl .c) (Y.nt (Y.ret (Y.r ?_))))))
 refine Y.i (aY rfl .z) .n ?_
 exact⟨by first |(rw [dW (by rw [eA (by assumption)];assumption),eA (by assumption)];done) |(rw [dW (by rw [dZ (by assumption) (by omega)];decide),dZ (by assumption) (by omega)];done) |(rw [fK (cN (by assumption) (by omega) (by omega) (by omega)) (by assumption)];done) |(rw [fL (cN (by assumption) (by omega) (by omega) (by omega)) (gX (fun j b hj hb=>hallz j b (by omega) hb)) (by assumption)];done) |(rw [fD (cN (by assumption) (by omega) (by omega) (by omega)) (gX (fun j b hj hb=>hallz j b (by omega) hb)) (by assumption) (jI (fun j x hj hx=>hallk j x (by omega) hx))];done),rfl⟩
 refine Y.qg rfl rfl .z rfl rfl rfl (aV rfl (.t .g16)) ?_
 refine Y.qg rfl rfl .g1 rfl rfl rfl (eB rfl (.t .z)) ?_
 refine Y.qg rfl rfl .g2 rfl rfl rfl (aK rfl (.t .z) (fun _=>aO _ _)) ?_
 refine Y.qg rfl rfl .g3 rfl rfl rfl (aL rfl bK (.t .z) (WS.el ab ac rfl)) ?_
 obtain⟨ed,a2,ad⟩:=a0 (by omega)
 subst a2
 obtain⟨x6,bf⟩:=aI (xs:=f.inodes) (j:=0) (by omega)
 obtain⟨du,bz,b0,b1⟩:=ad.elem bf
 obtain⟨cv,cw,rfl,a3,a4⟩:=cK bz
 obtain⟨cx,cy,rfl,b2,b4,b5,b6⟩:=aH a3
 obtain⟨cz,c0,rfl,b7,b8,b9,ca⟩:=aH a4
 have ee:=cH (i:=0) bf (by omega)
 have ef:=cI (a:=0) bf (by omega)
 have dv:=dT b3 _ (List.mem_of_getElem? bf)
 refine Y.qg rfl rfl .g4 rfl rfl rfl (aC (j:=0) rfl cE aU (.t .z) .c rfl (by omega)) ?_
 refine Y.qg rfl rfl .g5 rfl rfl rfl (aK rfl (.t .z) (fun _=>cV _ _)) ?_
 refine Y.qg rfl rfl .g6 rfl rfl rfl (aL rfl cF (.t .z) (WS.el b0 b1 rfl)) ?_
 refine Y.qg rfl rfl .g7 rfl rfl rfl (cU rfl (.t .z) .c) ?_
 refine Y.ql rfl (bW rfl (.t .g8) (.t .z)) (Y.mv rfl .z ?_)
 refine Y.ap .z (fun g10=> ?_) (fun g10=> ?_)
 refine Y.j rfl rfl .z rfl rfl (by decide) rfl ?_
 refine Y.j rfl rfl .g1 rfl rfl (by decide) rfl ?_
 refine Y.j rfl rfl .g2 rfl rfl (by decide) rfl ?_
 refine Y.j rfl rfl .g3 rfl rfl (by decide) rfl ?_
 refine Y.j rfl rfl .g4 rfl rfl (by decide) rfl ?_
 refine Y.j rfl rfl .g5 rfl rfl (by decide) rfl ?_
 refine Y.ql rfl (bO rfl (.t .g6) .c) (Y.nt ?_)
 refine Y.ao (.t .z) ?_
 refine Y.seq (Y.region (Y.er (.s16 .g16) (Y.ql rfl (aA rfl .c) (Y.nt (Y.ret (Y.r ?_))))))
 refine Y.i (aY rfl .z) .n ?_
 exact⟨by first |(rw [dW (by rw [eA (by assumption)];assumption),eA (by assumption)];done) |(rw [dW (by rw [dZ (by assumption) (by omega)];decide),dZ (by assumption) (by omega)];done) |(rw [fK (cN (by assumption) (by omega) (by omega) (by omega)) (by assumption)];done) |(rw [fL (cN (by assumption) (by omega) (by omega) (by omega)) (gX (fun j b hj hb=>hallz j b (by omega) hb)) (by assumption)];done) |(rw [fD (cN (by assumption) (by omega) (by omega) (by omega)) (gX (fun j b hj hb=>hallz j b (by omega) hb)) (by assumption) (jI (fun j x hj hx=>hallk j x (by omega) hx))];done),rfl⟩
 refine Y.qg rfl rfl .z rfl rfl rfl (aV rfl (.t (.s16 .g10))) ?_
 refine Y.qg rfl rfl .g1 rfl rfl rfl (eB rfl (.t .z)) ?_
 refine Y.qg rfl rfl .g2 rfl rfl rfl (aK rfl (.t .z) (fun _=>gR _ _)) ?_
 refine Y.qg rfl rfl .g3 rfl rfl rfl (aL rfl lM (.t .z) (WS.el ab ac rfl)) ?_
 refine Y.qg rfl rfl .g4 rfl rfl rfl (bM rfl mA (.t .z)) ?_
 refine Y.qg rfl rfl .g5 rfl rfl rfl (cU rfl (.t .z) .c) ?_
 refine Y.ql rfl (bW rfl (.t .g6) (.t .z)) (Y.nt ?_)
 refine Y.ad (.t .z) (fun dw=> ?_) (fun dw=> ?_)
 refine Y.seq (Y.region (Y.er (.s16 .g16) (Y.ql rfl (aA rfl .c) (Y.nt (Y.ret (Y.r ?_))))))
 refine Y.i (aY rfl .z) .n ?_
 exact⟨by first |(rw [dW (by rw [eA (by assumption)];assumption),eA (by assumption)];done) |(rw [dW (by rw [dZ (by assumption) (by omega)];decide),dZ (by assumption) (by omega)];done) |(rw [fK (cN (by assumption) (by omega) (by omega) (by omega)) (by assumption)];done) |(rw [fL (cN (by assumption) (by omega) (by omega) (by omega)) (gX (fun j b hj hb=>hallz j b (by omega) hb)) (by assumption)];done) |(rw [fD (cN (by assumption) (by omega) (by omega) (by omega)) (gX (fun j b hj hb=>hallz j b (by omega) hb)) (by assumption) (jI (fun j x hj hx=>hallk j x (by omega) hx))];done),rfl⟩
 refine Y.skip (Y.g (Y.seq (Y.seq (Y.region (Y.ql rfl (aA rfl .c) (Y.nt (Y.block ?_)))))))
 refine Y.aj (γ:=Nat) (fun z=> [(4,.int .i64 (z:Int)),(0,.pointer (some az))]) (fun z=> []) (fun z=>z≤f.data.length∧∀j b,j<z→f.data[j]? =some b→¬(8:Int)<(b.length:Int)) (fun z=>f.data.length - z) 0 ⟨Nat.zero_le _,eV (q:=fun _ (b:List UInt8)=>¬(8:Int)<(b.length:Int))⟩ (.c .z (.c (.s16 (.s16 .g2)) .n)) (fun _ h=>h) ?_
 rintro z ⟨hz,hallz⟩
 refine Y.seq (Y.seq (Y.region (Y.mv rfl .z (Y.mv rfl .g2 (Y.nc rfl .z (Y.fa rfl .z gR (Y.le rfl lM .z ab ac (Y.ql rfl (bM rfl mA (.t .z)) ?_))))))))
 refine Y.ql rfl (dJ rfl (.t .g5) (.t .z)) (Y.nt ?_)
 refine Y.u (.t .z) (fun dx=> ?_) (fun dx=> ?_)
 refine Y.skip (Y.g (Y.seq (Y.block (Y.seq (Y.region (Y.mv rfl .g8 (Y.nc rfl .z (Y.fa rfl .z gR ?_))))))))
 refine Y.le rfl lM .z ab ac (Y.mv rfl .g11 ?_)
 obtain⟨dy,al,am⟩:=a1 (by omega)
 subst al
 obtain⟨eg,an⟩:=aI (xs:=f.data) (j:=z) (by omega)
 obtain⟨c1,ah,a5,a6⟩:=am.elem an
 obtain⟨dz,rfl⟩:=mD ah
 obtain⟨d0,d1,rfl,c2,c3,c4,c5⟩:=aH ah
 refine Y.ql rfl (aC (j:=z) rfl mA mC (.t .g1) (.t .z) rfl (by omega)) ?_
 refine Y.ql rfl (aL rfl nL (.t .z) (WS.j a5 a6 rfl)) (Y.ql rfl (bM rfl gV (.t .z)) (Y.ql rfl (gO rfl (.t .z) .c) (Y.nt ?_)))
 refine Y.u (.t .z) (fun d2=> ?_) (fun d2=> ?_)
 refine Y.seq (Y.region (Y.ql rfl (aA rfl .c) (Y.nt (Y.ret (Y.y (Y.r (Y.r ?_)))))))
 refine Y.y (Y.r ?_)
 refine Y.i (aY rfl .z) .n ?_
 exact⟨by first |(rw [dW (by rw [eA (by assumption)];assumption),eA (by assumption)];done) |(rw [dW (by rw [dZ (by assumption) (by omega)];decide),dZ (by assumption) (by omega)];done) |(rw [fK (cN (by assumption) (by omega) (by omega) (by omega)) (aH4 an (by assumption))];done) |(rw [fL (cN (by assumption) (by omega) (by omega) (by omega)) (gX (fun j b hj hb=>hallz j b (by omega) hb)) (by assumption)];done) |(rw [fD (cN (by assumption) (by omega) (by omega) (by omega)) (gX (fun j b hj hb=>hallz j b (by omega) hb)) (by assumption) (jI (fun j x hj hx=>hallk j x (by omega) hx))];done),rfl⟩
 refine Y.skip (Y.ac (Y.g (Y.region (Y.mv rfl .g16 ?_))))
 refine Y.ql rfl (bQ (c:=((z+1:Nat):Int)) rfl (.t .z) .c (wr (by omega) (by omega) (by omega))) ?_
 refine Y.er (.s16 .g2) (Y.as rfl .z (Y.nil ?_))
 refine Y.ae (z+1) ⟨by omega,eM (q:=fun _ (b:List UInt8)=>¬(8:Int)<(b.length:Int)) hallz an (by assumption)⟩ (by first | omega |(dsimp only;omega)) (.c .z (.c (.s16 .g3) .n)) (fun _ h=>h)
 refine Y.exit (Y.ab (Y.ab (Y.ai (Y.g (Y.seq (Y.seq (Y.region (Y.mv rfl .g8 ?_))))))))
 refine Y.nc rfl .z (Y.fa rfl .z aO (Y.le rfl bK .z ab ac ?_))
 refine Y.cl rfl rfl Tryz.func99 rfl rfl (bT (.t .z)) .n (fun _ _ hs tr=>aNt (tr.ctx ak) (by assumption)) ?_
 rintro _ _ ⟨eh,rfl,rfl⟩
 refine Y.m (.c .n) ?_
 refine Y.h (WS.a .z) ?_
 rintro⟨ao,ap,rfl,c6,c7,c8⟩
 refine Y.mv rfl .z (Y.ql rfl (cC (v:= .slice ao (dN (oZ f.inodes) 20).length ap) rfl (.t .z) rfl) (Y.ql rfl (cC (v:= .bool (decide (gD f.inodes).Nodup)) rfl (.t .g1) rfl) (Y.as rfl .g1 (Y.as rfl .g1 (Y.nt (Y.seq (Y.region ?_)))))))
 refine Y.mv rfl .z (Y.ql rfl (fN rfl (.t .z)) (Y.nt ?_))
 refine Y.ad (.t .z) (fun d3=> ?_) (fun d3=> ?_)
 refine Y.seq (Y.region (Y.ql rfl (aA rfl .c) (Y.nt (Y.ret (Y.r ?_)))))
 refine Y.i (aY rfl .z) .n ?_
 exact⟨by first |(rw [dW (by rw [eA (by assumption)];assumption),eA (by assumption)];done) |(rw [dW (by rw [dZ (by assumption) (by omega)];decide),dZ (by assumption) (by omega)];done) |(rw [fK (cN (by assumption) (by omega) (by omega) (by omega)) (by assumption)];done) |(rw [fL (cN (by assumption) (by omega) (by omega) (by omega)) (gX (fun j b hj hb=>hallz j b (by omega) hb)) (by assumption)];done) |(rw [fD (cN (by assumption) (by omega) (by omega) (by omega)) (gX (fun j b hj hb=>hallz j b (by omega) hb)) (by assumption) (jI (fun j x hj hx=>hallk j x (by omega) hx))];done),rfl⟩
 refine Y.skip (Y.g (Y.seq (Y.seq (Y.region (Y.ql rfl (aA rfl .c) (Y.nt (Y.block ?_)))))))
 refine Y.aj (γ:=Nat) (fun k=> [(7,.int .i64 (k:Int)),(0,.pointer (some az))]) (fun k=> [aG bY (dN (oZ f.inodes) 20) [.slice ao (dN (oZ f.inodes) 20).length ap]]) (fun k=>k≤f.inodes.length∧∀j x,j<k→f.inodes[j]? =some x→uP f.inodes x) (fun k=>f.inodes.length - k) 0 ⟨Nat.zero_le _,eV (q:=fun _ x=>uP f.inodes x)⟩ (.c .z (.c (.s16 .g5) .n)) (fun _ h=>h.sel (.c .z .n)) ?_
 rintro k ⟨hk,hallk⟩
 refine Y.seq (Y.seq (Y.region (Y.mv rfl .z (Y.mv rfl .g2 (Y.nc rfl .z (Y.fa rfl .z aO (Y.le rfl bK .z ab ac (Y.ql rfl (bM rfl cE (.t .z)) ?_))))))))
 refine Y.ql rfl (dJ rfl (.t .g5) (.t .z)) (Y.nt ?_)
 refine Y.u (.t .z) (fun d4=> ?_) (fun d4=> ?_)
 refine Y.skip (Y.g (Y.seq (Y.block (Y.seq (Y.region (Y.ql rfl (aA rfl .c) (Y.nt ?_)))))))
 refine Y.block ?_
 obtain⟨bg,aa⟩:=aI (xs:=f.inodes) (j:=k) (by omega)
 obtain⟨c9,a7,ai,aj⟩:=ad.elem aa
 obtain⟨cb,cc,rfl,aq,ar⟩:=cK a7
 obtain⟨cd,ce,rfl,bh,bi,bj,bk⟩:=aH aq
 obtain⟨cf,cg,rfl,bm,bn,bo,af⟩:=aH ar
 have d5:=cH (i:=((k:Nat):Int)) aa (by omega)
 have d6:=cI (a:=((k:Nat):Int)) aa (by omega)
 have a8:=dT b3 _ (List.mem_of_getElem? aa)
 refine Y.aj (γ:=Nat) (fun q=> [(8,.int .i64 (q:Int)),(7,.int .i64 (k:Int)),(0,.pointer (some az))]) (fun q=> [aG bY (dN (oZ f.inodes) 20) [.slice ao (dN (oZ f.inodes) 20).length ap]]) (fun q=>q≤bg.ents.length∧∀j e,j<q→bg.ents[j]? =some e→¬pF f.inodes e) (fun q=>bg.ents.length - q) 0 ⟨Nat.zero_le _,eV (q:=fun _ e=>¬pF f.inodes e)⟩ (.c .z (.c .g8 (.c .g9 .n))) (fun _ h=>h.sel (.c .z .n)) ?_
 rintro q ⟨hq,hallq⟩
 refine Y.seq (Y.seq (Y.region (Y.mv rfl .z (Y.mv rfl .g3 (Y.nc rfl .z (Y.fa rfl .z aO (Y.le rfl bK .z ab ac (Y.mv rfl .g6 ?_))))))))
 refine Y.ql rfl (aC (j:=k) rfl cE aU (.t .g1) (.t .z) rfl (by omega)) ?_
 refine Y.fa rfl .z bE (Y.le rfl dP .z ai aj (Y.ql rfl (bM rfl cZ (.t .z)) (Y.ql rfl (dJ rfl (.t .g9) (.t .z)) (Y.nt ?_))))
 refine Y.u (.t .z) (fun d7=> ?_) (fun d7=> ?_)
 refine Y.skip (Y.g (Y.seq (Y.block (Y.seq (Y.region (Y.mv rfl .g13 (Y.nc rfl .z (Y.fa rfl .z aO ?_))))))))
 refine Y.le rfl bK .z ab ac (Y.mv rfl .g16 ?_)
 refine Y.ql rfl (aC (j:=k) rfl cE aU (.t .g1) (.t .z) rfl (by omega)) ?_
 refine Y.fa rfl .z bE (Y.le rfl dP .z ai aj (Y.mv rfl (.s16 .g3) ?_))
 obtain⟨d8,au,av⟩:=af (by omega)
 subst au
 obtain⟨aw,ae⟩:=aI (xs:=bg.ents) (j:=q) (by omega)
 obtain⟨da,a9,ba,bb⟩:=av.elem ae
 obtain⟨rfl,ch⟩:=eR a9
 have db:=nN a8 _ _ ae
 refine Y.ql rfl (aC (j:=q) rfl cZ dV (.t .g1) (.t .z) rfl (by omega)) ?_
 refine Y.fa rfl .z iX (Y.le rfl cF .z ba bb (Y.as rfl .z (Y.nt (Y.seq (Y.region (Y.mv rfl .z (Y.mv rfl (.s16 .g11) ?_)))))))
 refine Y.nc rfl .z (Y.fa rfl .z aO (Y.le rfl bK .z ab ac (Y.ql rfl (bM rfl cE (.t .z)) (Y.ql rfl (lU rfl (.t .g5) (.t .z)) (Y.mv rfl .z ?_)))))
 refine Y.al .z (fun g31=> ?_) (fun g31=> ?_)
 refine Y.j rfl rfl .z rfl rfl (by decide) rfl ?_
 refine Y.j rfl rfl .g1 rfl rfl (by decide) rfl ?_
 refine Y.j rfl rfl .g2 rfl rfl (by decide) rfl ?_
 refine Y.j rfl rfl .g3 rfl rfl (by decide) rfl ?_
 refine Y.j rfl rfl .g4 rfl rfl (by decide) rfl ?_
 refine Y.j rfl rfl .g5 rfl rfl (by decide) rfl ?_
 refine Y.j rfl rfl .g6 rfl rfl (by decide) rfl ?_
 refine Y.j rfl rfl .g7 rfl rfl (by decide) rfl ?_
 refine Y.j rfl rfl .g8 rfl rfl (by decide) rfl ?_
 refine Y.ql rfl (bO rfl (.t .g9) .c) (Y.nt ?_)
 refine Y.ao (.t .z) ?_
 refine Y.seq (Y.region (Y.ql rfl (aA rfl .c) (Y.nt (Y.ret (Y.y (Y.r (Y.r ?_)))))))
 refine Y.y (Y.y (Y.r (Y.r (Y.y (Y.r ?_)))))
 refine Y.i (aY rfl .z) .n ?_
 exact⟨by first |(rw [dW (by rw [eA (by assumption)];assumption),eA (by assumption)];done) |(rw [dW (by rw [dZ (by assumption) (by omega)];decide),dZ (by assumption) (by omega)];done) |(rw [fK (cN (by assumption) (by omega) (by omega) (by omega)) (by assumption)];done) |(rw [fL (cN (by assumption) (by omega) (by omega) (by omega)) (gX (fun j b hj hb=>hallz j b (by omega) hb)) (by assumption)];done) |(rw [pB (cN (by assumption) (by omega) (by omega) (by omega)) (gX (fun j b hj hb=>hallz j b (by omega) hb)) (by assumption) (rO aa ae (by first | exact pY (by assumption) |(show aR f.inodes aw.ino=0;omega)))];done) |(rw [fD (cN (by assumption) (by omega) (by omega) (by omega)) (gX (fun j b hj hb=>hallz j b (by omega) hb)) (by assumption) (jI (fun j x hj hx=>hallk j x (by omega) hx))];done),rfl⟩
 refine Y.qg rfl rfl .z rfl rfl rfl (aV rfl (.t (.s16 (.s16 .g2)))) ?_
 refine Y.qg rfl rfl .g1 rfl rfl rfl (eB rfl (.t .z)) ?_
 refine Y.qg rfl rfl .g2 rfl rfl rfl (aK rfl (.t .z) (fun _=>aO _ _)) ?_
 refine Y.qg rfl rfl .g3 rfl rfl rfl (aL rfl bK (.t .z) (WS.el ab ac rfl)) ?_
 refine Y.qg rfl rfl .g4 rfl rfl rfl (aV rfl (.t .g12)) ?_
 obtain⟨ei,ag⟩:=aI (xs:=f.inodes) (j:=Int.toNat aw.ino) (by omega)
 obtain⟨dc,bc,bd,be⟩:=ad.elem ag
 obtain⟨ci,cj,rfl,ax,ay⟩:=cK bc
 obtain⟨ck,cm,rfl,bp,bq,br,bs⟩:=aH ax
 obtain⟨cn,co,rfl,bt,bu,bv,bw⟩:=aH ay
 have d9:=cH (i:=aw.ino) ag (by omega)
 have ea:=cI (a:=aw.ino) ag (by omega)
 have dd:=dT b3 _ (List.mem_of_getElem? ag)
 refine Y.qg rfl rfl .g5 rfl rfl rfl (aC (j:=Int.toNat aw.ino) rfl cE aU (.t .g1) (.t .z) (by omega) (by omega)) ?_
 refine Y.qg rfl rfl .g6 rfl rfl rfl (aK rfl (.t .z) (fun _=>cV _ _)) ?_
 refine Y.qg rfl rfl .g7 rfl rfl rfl (aL rfl cF (.t .z) (WS.el bd be rfl)) ?_
 refine Y.qg rfl rfl .g8 rfl rfl rfl (bZ rfl (.t .z) .c) ?_
 refine Y.ql rfl (bW rfl (.t .g9) (.t .z)) (Y.nt ?_)
 refine Y.u (.t .z) (fun eb=> ?_) (fun eb=> ?_)
 refine Y.seq (Y.region (Y.ql rfl (aA rfl .c) (Y.nt (Y.ret (Y.y (Y.r (Y.r ?_)))))))
 refine Y.y (Y.y (Y.r (Y.r (Y.y (Y.r ?_)))))
 refine Y.i (aY rfl .z) .n ?_
 exact⟨by first |(rw [dW (by rw [eA (by assumption)];assumption),eA (by assumption)];done) |(rw [dW (by rw [dZ (by assumption) (by omega)];decide),dZ (by assumption) (by omega)];done) |(rw [fK (cN (by assumption) (by omega) (by omega) (by omega)) (by assumption)];done) |(rw [fL (cN (by assumption) (by omega) (by omega) (by omega)) (gX (fun j b hj hb=>hallz j b (by omega) hb)) (by assumption)];done) |(rw [pB (cN (by assumption) (by omega) (by omega) (by omega)) (gX (fun j b hj hb=>hallz j b (by omega) hb)) (by assumption) (rO aa ae (by first | exact pY (by assumption) |(show aR f.inodes aw.ino=0;omega)))];done) |(rw [fD (cN (by assumption) (by omega) (by omega) (by omega)) (gX (fun j b hj hb=>hallz j b (by omega) hb)) (by assumption) (jI (fun j x hj hx=>hallk j x (by omega) hx))];done),rfl⟩
 refine Y.skip (Y.ac (Y.g (Y.region (Y.mv rfl (.s16 (.s16 .g10)) ?_))))
 refine Y.ql rfl (bQ (c:=((q+1:Nat):Int)) rfl (.t .z) .c (wr (by omega) (by omega) (by omega))) ?_
 refine Y.er (.s16 (.s16 .g12)) (Y.as rfl .z (Y.nil ?_))
 refine Y.ae (q+1) ⟨by omega,eM (q:=fun _ e=>¬pF f.inodes e) hallq ae (fun hb=>by have hbb:aR f.inodes aw.ino=0:=hb;omega)⟩ (by first | omega |(dsimp only;omega)) (.c .z (.c (.s16 (.s16 .g13)) (.c (.s16 (.s16 .g14)) .n))) (fun _ h=>h.sel (.c .z .n))
 refine Y.exit (Y.ab (Y.ab (Y.ai (Y.ac (Y.g (Y.region (Y.mv rfl .g12 ?_)))))))
 refine Y.ql rfl (bQ (c:=((k+1:Nat):Int)) rfl (.t .z) .c (wr (by omega) (by omega) (by omega))) ?_
 refine Y.er .g14 (Y.as rfl .z (Y.nil ?_))
 refine Y.ae (k+1) ⟨by omega,eM (q:=fun _ x=>uP f.inodes x) hallk aa (fun j e he=>hallq j e (by have:=(List.getElem?_eq_some_iff.1 he).1;omega) he)⟩ (by first | omega |(dsimp only;omega)) (.c .z (.c .g15 .n)) (fun _ h=>h.sel (.c .z .n))
 refine Y.exit (Y.ab (Y.ab (Y.ai (Y.g (Y.seq (Y.region (Y.ql rfl (aA rfl .c) (Y.nil ?_))))))))
 refine Y.g (Y.ret ?_)
 refine Y.i (aY rfl .z) .n ?_
 exact⟨by first |(rw [dW (by rw [eA (by assumption)];assumption),eA (by assumption)];done) |(rw [dW (by rw [dZ (by assumption) (by omega)];decide),dZ (by assumption) (by omega)];done) |(rw [fK (cN (by assumption) (by omega) (by omega) (by omega)) (by assumption)];done) |(rw [fL (cN (by assumption) (by omega) (by omega) (by omega)) (gX (fun j b hj hb=>hallz j b (by omega) hb)) (by assumption)];done) |(rw [fD (cN (by assumption) (by omega) (by omega) (by omega)) (gX (fun j b hj hb=>hallz j b (by omega) hb)) (by assumption) (jI (fun j x hj hx=>hallk j x (by omega) hx))];done),rfl⟩

end Go.Proofs.YtmejbfmhaoilmaaGreat

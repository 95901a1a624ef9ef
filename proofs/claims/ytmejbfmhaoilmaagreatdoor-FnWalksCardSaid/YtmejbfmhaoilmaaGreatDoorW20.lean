/- What is proved: contracts of functions, one a function. No condition. -/
import Derived.Test.YtmejbfmhaoilmaaGreatDoorBase1
import Derived.Test.YtmejbfmhaoilmaaGreatDoorW11
namespace Go.Proofs.YtmejbfmhaoilmaaGreatDoor
open Go Go.RowKit
set_option linter.unusedVariables false
set_option linter.unusedSimpArgs false
set_option maxHeartbeats 1000000
set_option maxRecDepth 20000
theorem aNr {w0:World}{S0:Bs}{xs:(List (List UInt8))}{v0:Value} (h0:eH.ro w0 (FF w0 S0) xs [v0]) {f:FuncId}{fn:Func} (hfn:Tryz.prog.funcs[f]? =some fn) (hbody:fn.body.isSome=true) (hname:(fn.name == "runtime.NumGoroutine")=false) {p:(List UInt8)→Bool} (hf:∀(w1:World) (S1:Bs) {x:(List UInt8)}{v1:Value},dD.ro w1 (FF w1 S1) x [v1]→Calls Tryz.prog f #[v1] w1 (aI w1 S1 (fun r l=>r= .bool (p x)∧l= []))):
    Calls Tryz.prog 91 #[v0,.func (.func f) #[] #[]] w0 (aI w0 S0 (fun r l=>r= .int .i64 (eX p xs)∧l= [])):=by
 obtain⟨A0,c0,rfl,am,an,ao,ag⟩:=aD h0
 refine Y.enter (N:=19) Tryz.func91 rfl rfl (by simp) [(0,.slice A0 xs.length c0),(1,.func (.func f) #[] #[])] (by simp) (l0:= []) trivial ?_
 refine Y.seq (Y.region (Y.ql rfl (aA rfl .c) (Y.nt (Y.seq (Y.seq (Y.region (Y.mv rfl .g1 ?_)))))))
 refine Y.ql rfl (bD rfl pH (.t .z)) (Y.ql rfl (aR rfl .c) (Y.nt (Y.block ?_)))
 refine Y.ai (γ:=Nat) (fun k=> [(8,.int .i64 (k:Int)),(7,.int .i64 (xs.length:Int)),(0,.slice A0 xs.length c0),(1,.func (.func f) #[] #[])]) (fun k=> []) (fun k=>k≤xs.length∧∀j x,j<k→xs[j]? =some x→p x=false) (fun k=>xs.length - k) 0 ⟨Nat.zero_le _,eN (q:=fun _ x=>p x=false)⟩ (.c .z (.c .g1 (.c .g4 (.c .g5 .n)))) (fun _ h=>h) ?_
 rintro k ⟨hk,hallk⟩
 refine Y.seq (Y.region (Y.ql rfl (dA rfl (.t .z) (.t .g1)) (Y.nt (Y.seq ?_))))
 refine Y.u (.t .z) (fun b2=> ?_) (fun b2=> ?_)
 refine Y.skip (Y.g (Y.seq (Y.block (Y.seq (Y.region (Y.mv rfl .g1 (Y.as rfl .z (Y.nil ?_))))))))
 refine Y.g (Y.seq (Y.region (Y.mv rfl .g6 (Y.mv rfl .g6 (Y.mv rfl .g2 ?_)))))
 obtain⟨ap,ab,ac⟩:=ag (by omega)
 subst ab
 obtain⟨x4,af⟩:=aK (xs:=xs) (j:=k) (by omega)
 obtain⟨ah,aa,ad,ae⟩:=ac.elem af
 obtain⟨aq,rfl⟩:=lS aa
 obtain⟨ar,au,rfl,ai,aj,ak,al⟩:=aD aa
 refine Y.ql rfl (aB (j:=k) rfl pH nY (.t .g1) (.t .z) rfl (by omega)) ?_
 refine Y.ql rfl (aM rfl oG (.t .z) (WS.i ad ae rfl)) ?_
 refine Y.call (aE rfl) rfl (by decide) rfl (aEi rfl (.t .g4) hfn hbody hname (bG (.t .z))) .n (fun w1 S1 hs tr=>hf w1 S1 (tr.ctx aa)) ?_
 rintro _ _ ⟨rfl,rfl⟩
 refine Y.m .n ?_
 refine Y.nt ?_
 refine Y.cond (.t .z) (fun b7=> ?_) (fun b7=> ?_)
 refine Y.seq (Y.region (Y.mv rfl .g6 (Y.as rfl .z (Y.nt (Y.ret (Y.v (Y.j ?_)))))))
 refine Y.j (Y.v (Y.j ?_))
 refine Y.i (aU rfl .z) .n ?_
 exact⟨by rw [rV (by assumption) (by assumption) hallk],rfl⟩
 refine Y.skip (Y.ab (Y.g (Y.region ?_)))
 refine Y.ql rfl (bN (c:=((k+1:Nat):Int)) rfl (.t .g9) .c (wr (by omega) (by omega) (by omega))) ?_
 refine Y.er .g10 (Y.mv rfl .z (Y.nil ?_))
 refine Y.ae (k+1) ⟨by omega,dS (q:=fun _ x=>p x=false) hallk af b7⟩ (by first | omega |(dsimp only;omega)) (.c .z (.c .g11 (.c .g12 (.c .g13 .n)))) (fun _ h=>h)
 refine Y.exit (Y.y (Y.y (Y.ag (Y.g (Y.seq (Y.region (Y.ql rfl (aA rfl .c) (Y.nil ?_))))))))
 refine Y.g (Y.ret ?_)
 refine Y.i (aU rfl .z) .n ?_
 exact⟨by rw [rT (fun j x hx=>hallk j x (by have:=(List.getElem?_eq_some_iff.1 hx).1;omega) hx)],rfl⟩

theorem aOj {w0:World}{S0:Bs}{b:(List UInt8)}{v0:Value} (h0:dD.ro w0 (FF w0 S0) b [v0]):
    Calls Tryz.prog 62 #[v0] w0 (aI w0 S0 (fun r l=>r= .bool (decide ((8:Int)<(b.length:Int)))∧l= [])):=by
 obtain⟨A0,c0,rfl,hl0,hm0,hb0,he0⟩:=aD h0
 refine Y.enter (N:=6) Tryz.func62 rfl rfl (by simp) [(0,.slice A0 b.length c0)] (by simp) (l0:= []) trivial ?_
 refine Y.seq (Y.region (Y.ql rfl (aA rfl .c) (Y.nt (Y.seq (Y.region (Y.mv rfl .g1 (Y.ql rfl (bD rfl iJ (.t .z)) ?_)))))))
 refine Y.ql rfl (fI rfl (.t .z) .c) (Y.er .g3 (Y.as rfl .z (Y.nt (Y.ret ?_))))
 refine Y.i (aU rfl .z) .n ?_
 exact⟨rfl,rfl⟩

theorem aNy {w0:World}{S0:Bs}{xs:(List (List UInt8))}{v0:Value} (h0:eH.ro w0 (FF w0 S0) xs [v0]) {f:FuncId}{fn:Func} (hfn:Tryz.prog.funcs[f]? =some fn) (hbody:fn.body.isSome=true) (hname:(fn.name == "runtime.NumGoroutine")=false) {p:(List UInt8)→Bool} (hf:∀(w1:World) (S1:Bs) {x:(List UInt8)}{v1:Value},dD.ro w1 (FF w1 S1) x [v1]→Calls Tryz.prog f #[v1] w1 (aI w1 S1 (fun r l=>r= .bool (p x)∧l= []))):
    Calls Tryz.prog 61 #[v0,.func (.func f) #[] #[]] w0 (aI w0 S0 (fun r l=>r= .bool (xs.any p)∧l= [])):=by
 obtain⟨A0,c0,rfl,hl0,hm0,hb0,he0⟩:=aD h0
 refine Y.enter (N:=9) Tryz.func61 rfl rfl (by simp) [(0,.slice A0 xs.length c0),(1,.func (.func f) #[] #[])] (by simp) (l0:= []) trivial ?_
 refine Y.seq (Y.region (Y.ql rfl (aA rfl .c) (Y.nt (Y.seq (Y.region (Y.mv rfl .g1 (Y.mv rfl .g3 ?_)))))))
 refine Y.cl rfl rfl Tryz.func91 rfl rfl (aS (.t .g1) (.t .z)) .n (fun _ _ hs tr=>aNr (tr.ctx h0) hfn hbody hname (fun w2 S2 x _ h1=>hf w2 S2 h1)) ?_
 rintro _ _ ⟨rfl,rfl⟩
 refine Y.m .n ?_
 refine Y.ql rfl (nH rfl (.t .z) .c) (Y.er .g4 (Y.as rfl .z (Y.nt (Y.ret ?_))))
 refine Y.i (aU rfl .z) .n ?_
 exact⟨by rw [xS],rfl⟩

theorem aOz {w0:World}{S0:Bs}{f:DFs}{az:List Value} (h0:dV.ro w0 (FF w0 S0) f az):
    Calls Tryz.prog 60 #[.agg az.toArray] w0 (aI w0 S0 (fun r l=>r= .int .i64 (fN f)∧l= [])):=by
 obtain⟨bd,be,rfl,aa,ak⟩:=bZ h0
 obtain⟨ab,ac,rfl,a0,a1,a2,ad⟩:=aD aa
 obtain⟨ae,af,rfl,a3,a4,a5,a6⟩:=aD ak
 refine Y.enter (N:=28) Tryz.func60 rfl rfl (by simp) [(0,.agg #[.slice ab f.inodes.length ac,.slice ae f.data.length af])] (by simp) (l0:= []) trivial ?_
 refine Y.seq (Y.region ?_)
 refine Y.el rfl (fQ (cs:= [.slice ab f.inodes.length ac,.slice ae f.data.length af]) (n:=2) rfl (.t .z) rfl rfl) ?_
 rintro _ _ ⟨g3,rfl,rfl⟩
 refine Y.ql rfl (aA rfl .c) (Y.nt (Y.seq (Y.seq (Y.region (Y.fa rfl .g1 aP (Y.ld rfl bR .z .z ?_))))))
 refine Y.cl rfl rfl Tryz.func90 rfl rfl (bG (.t .z)) .n (fun _ _ hs tr=>aO0 (tr.ctx aa)) ?_
 rintro _ _ ⟨rfl,rfl⟩
 refine Y.m .n ?_
 refine Y.as rfl .z (Y.nt (Y.seq (Y.region (Y.mv rfl .z (Y.ql rfl (bW rfl (.t .z) .c) (Y.nt ?_))))))
 refine Y.ac (.t .z) (fun b4=> ?_) (fun b4=> ?_)
 refine Y.seq (Y.region (Y.mv rfl .g2 (Y.er .g7 (Y.as rfl .z (Y.nt (Y.ret (Y.j ?_)))))))
 refine Y.i (aU rfl .z) .n ?_
 exact⟨by first |(rw [dO (by assumption)];done) |(rw [dQ (by assumption) (by omega)];done) |(rw [cG (by assumption) (by omega) (by omega) (by omega)];done),rfl⟩
 refine Y.skip (Y.g (Y.seq (Y.seq (Y.region (Y.fa rfl .g7 aP (Y.ld rfl bR .z .z (Y.ql rfl (bD rfl cQ (.t .z)) (Y.ql rfl (bU rfl (.t .z) .c) ?_))))))))
 refine Y.mv rfl .z ?_
 refine Y.al .z (fun g5=> ?_) (fun g5=> ?_)
 refine Y.r rfl rfl .z rfl rfl (by decide) rfl ?_
 refine Y.r rfl rfl .g1 rfl rfl (by decide) rfl ?_
 refine Y.r rfl rfl .g2 rfl rfl (by decide) rfl ?_
 refine Y.r rfl rfl .g3 rfl rfl (by decide) rfl ?_
 refine Y.r rfl rfl .g4 rfl rfl (by decide) rfl ?_
 refine Y.r rfl rfl .g5 rfl rfl (by decide) rfl ?_
 refine Y.ql rfl (bI rfl (.t .g6) .c) (Y.mv rfl .z ?_)
 refine Y.r rfl rfl .z rfl rfl (by decide) rfl ?_
 refine Y.r rfl rfl .g1 rfl rfl (by decide) rfl ?_
 refine Y.r rfl rfl .g2 rfl rfl (by decide) rfl ?_
 refine Y.r rfl rfl .g3 rfl rfl (by decide) rfl ?_
 refine Y.ql rfl (bI rfl (.t .g4) .c) (Y.nt ?_)
 refine Y.aq (.t .z) ?_
 refine Y.seq (Y.region (Y.er (.s16 .g8) (Y.ql rfl (aA rfl .c) (Y.nt (Y.ret (Y.j ?_))))))
 refine Y.i (aU rfl .z) .n ?_
 exact⟨by first |(rw [dO (by assumption)];done) |(rw [dQ (by assumption) (by omega)];done) |(rw [cG (by assumption) (by omega) (by omega) (by omega)];done),rfl⟩
 refine Y.qg rfl rfl .z rfl rfl rfl (aN rfl (.t .g12) (fun _=>aP _ _)) ?_
 refine Y.qg rfl rfl .g1 rfl rfl rfl (aM rfl bR (.t .z) (WS.g .z rfl)) ?_
 obtain⟨bh,ag,ah⟩:=ad (by omega)
 subst ag
 obtain⟨x7,al⟩:=aK (xs:=f.inodes) (j:=0) (by omega)
 obtain⟨bf,am,an,ao⟩:=ah.elem al
 obtain⟨a7,a8,rfl,ai,aj⟩:=bY am
 obtain⟨a9,ba,rfl,ap,aq,ar,au⟩:=aD ai
 obtain⟨bb,bc,rfl,av,aw,ax,ay⟩:=aD aj
 have bi:=cO (i:=0) al (by omega)
 have bj:=cP (a:=0) al (by omega)
 refine Y.qg rfl rfl .g2 rfl rfl rfl (aB (j:=0) rfl cQ aT (.t .z) .c rfl (by omega)) ?_
 refine Y.qg rfl rfl .g3 rfl rfl rfl (aN rfl (.t .z) (fun _=>bS _ _)) ?_
 refine Y.qg rfl rfl .g4 rfl rfl rfl (aM rfl bP (.t .z) (WS.el an ao rfl)) ?_
 refine Y.qg rfl rfl .g5 rfl rfl rfl (bW rfl (.t .z) .c) ?_
 refine Y.ql rfl (bH rfl (.t .g6) (.t .z)) (Y.mv rfl .z ?_)
 refine Y.an .z (fun g11=> ?_) (fun g11=> ?_)
 refine Y.r rfl rfl .z rfl rfl (by decide) rfl ?_
 refine Y.r rfl rfl .g1 rfl rfl (by decide) rfl ?_
 refine Y.r rfl rfl .g2 rfl rfl (by decide) rfl ?_
 refine Y.r rfl rfl .g3 rfl rfl (by decide) rfl ?_
 refine Y.ql rfl (bI rfl (.t .g4) .c) (Y.nt ?_)
 refine Y.aq (.t .z) ?_
 refine Y.seq (Y.region (Y.er (.s16 .g8) (Y.ql rfl (aA rfl .c) (Y.nt (Y.ret (Y.j ?_))))))
 refine Y.i (aU rfl .z) .n ?_
 exact⟨by first |(rw [dO (by assumption)];done) |(rw [dQ (by assumption) (by omega)];done) |(rw [cG (by assumption) (by omega) (by omega) (by omega)];done),rfl⟩
 refine Y.qg rfl rfl .z rfl rfl rfl (aN rfl (.t (.s16 .g4)) (fun _=>gQ _ _)) ?_
 refine Y.qg rfl rfl .g1 rfl rfl rfl (aM rfl mS (.t .z) (WS.g .z rfl)) ?_
 refine Y.qg rfl rfl .g2 rfl rfl rfl (bD rfl pH (.t .z)) ?_
 refine Y.qg rfl rfl .g3 rfl rfl rfl (bW rfl (.t .z) .c) ?_
 refine Y.ql rfl (bH rfl (.t .g4) (.t .z)) (Y.nt ?_)
 refine Y.ac (.t .z) (fun bg=> ?_) (fun bg=> ?_)
 refine Y.seq (Y.region (Y.er (.s16 .g8) (Y.ql rfl (aA rfl .c) (Y.nt (Y.ret (Y.j ?_))))))
 refine Y.i (aU rfl .z) .n ?_
 exact⟨by first |(rw [dO (by assumption)];done) |(rw [dQ (by assumption) (by omega)];done) |(rw [cG (by assumption) (by omega) (by omega) (by omega)];done),rfl⟩
 refine Y.skip (Y.g (Y.seq (Y.region (Y.er (.s16 .g8) (Y.ql rfl (aA rfl .c) (Y.nt (Y.ret ?_)))))))
 refine Y.i (aU rfl .z) .n ?_
 exact⟨by first |(rw [dO (by assumption)];done) |(rw [dQ (by assumption) (by omega)];done) |(rw [cG (by assumption) (by omega) (by omega) (by omega)];done),rfl⟩

theorem aMe {w0:World}{S0:Bs}{f:DFs}{b7:List Value} (h0:dV.ro w0 (FF w0 S0) f b7):
    Calls Tryz.prog 33 #[.agg b7.toArray] w0 (aI w0 S0 (fun r l=>r= .int .i64 (aX f)∧l= [])):=by
 obtain⟨ck,cm,rfl,ah,an⟩:=bZ h0
 obtain⟨ai,ab,rfl,b8,b9,ca,a0⟩:=aD ah
 obtain⟨aj,ak,rfl,cb,cc,cd,ce⟩:=aD an
 refine Y.enter (N:=58) Tryz.func33 rfl rfl (by simp) [(0,.agg #[.slice ai f.inodes.length ab,.slice aj f.data.length ak])] (by simp) (l0:= []) trivial ?_
 refine Y.seq (Y.region ?_)
 refine Y.el rfl (fQ (cs:= [.slice ai f.inodes.length ab,.slice aj f.data.length ak]) (n:=2) rfl (.t .z) rfl rfl) ?_
 rintro _ _ ⟨g3,rfl,rfl⟩
 refine Y.ql rfl (aA rfl .c) (Y.nt (Y.seq (Y.seq (Y.region (Y.ql rfl (qW rfl bX (.t .g1) .z bA) ?_)))))
 refine Y.cl rfl rfl Tryz.func60 rfl rfl (bG (.t .z)) .n (fun _ _ hs tr=>aOz (aJ f (tr.ctx ah) (tr.ctx an))) ?_
 rintro _ _ ⟨rfl,rfl⟩
 refine Y.m .n ?_
 refine Y.as rfl .z (Y.nt (Y.seq (Y.region (Y.mv rfl .z (Y.ql rfl (bW rfl (.t .z) .c) (Y.nt ?_))))))
 refine Y.ac (.t .z) (fun b4=> ?_) (fun b4=> ?_)
 refine Y.seq (Y.region (Y.mv rfl .g2 (Y.er .g6 (Y.as rfl .z (Y.nt (Y.ret (Y.j ?_)))))))
 refine Y.i (aU rfl .z) .n ?_
 exact⟨by first |(rw [dN (by assumption)];done) |(rw [fD (by assumption) (by assumption)];done) |(rw [fE (by assumption) (by assumption) (by assumption)];done) |(rw [fB (by assumption) (by assumption) (by assumption) (jM (fun j x hj hx=>hallk j x (by omega) hx))];done),rfl⟩
 have a1:=(vJ b4).1
 refine Y.skip (Y.g (Y.seq (Y.seq (Y.region (Y.fa rfl .g6 gQ (Y.ld rfl mS .z .z ?_))))))
 refine Y.cl rfl rfl Tryz.func61 rfl rfl (aS (.t .z) .f) .n (fun _ _ hs tr=>aNy (tr.ctx an) Tryz.func62 rfl rfl (fun w2 S2 x _ h1=>aOj h1)) ?_
 rintro _ _ ⟨rfl,rfl⟩
 refine Y.m .n ?_
 refine Y.nt ?_
 refine Y.cond (.t .z) (fun b6=> ?_) (fun b6=> ?_)
 refine Y.seq (Y.region (Y.er .g8 (Y.ql rfl (aA rfl .c) (Y.nt (Y.ret (Y.j ?_))))))
 refine Y.i (aU rfl .z) .n ?_
 exact⟨by first |(rw [dN (by assumption)];done) |(rw [fD (by assumption) (by assumption)];done) |(rw [fE (by assumption) (by assumption) (by assumption)];done) |(rw [fB (by assumption) (by assumption) (by assumption) (jM (fun j x hj hx=>hallk j x (by omega) hx))];done),rfl⟩
 refine Y.skip (Y.g (Y.seq (Y.seq (Y.region (Y.fa rfl .g9 aP (Y.ld rfl bR .z .z ?_))))))
 refine Y.cl rfl rfl Tryz.func63 rfl rfl (bG (.t .z)) .n (fun _ _ hs tr=>aO1 (tr.ctx ah) (by first | assumption |(exact aHd (by assumption)))) ?_
 rintro _ _ ⟨v7,rfl,rfl⟩
 refine Y.m (.c .n) ?_
 refine Y.h (WS.a .z) ?_
 rintro⟨bt,bu,rfl,cn,co,cp⟩
 refine Y.mv rfl .z (Y.ql rfl (bF (v:= .slice bt (kW (fU f.inodes)).length bu) rfl (.t .z) rfl) (Y.ql rfl (bF (v:= .bool (decide (fU f.inodes).Nodup)) rfl (.t .g1) rfl) (Y.as rfl .g1 (Y.as rfl .g1 (Y.nt (Y.seq (Y.region ?_)))))))
 refine Y.mv rfl .z (Y.ql rfl (fF rfl (.t .z)) (Y.nt ?_))
 refine Y.ac (.t .z) (fun cq=> ?_) (fun cq=> ?_)
 refine Y.seq (Y.region (Y.er (.s16 .g2) (Y.ql rfl (aA rfl .c) (Y.nt (Y.ret (Y.j ?_))))))
 refine Y.i (aU rfl .z) .n ?_
 exact⟨by first |(rw [dN (by assumption)];done) |(rw [fD (by assumption) (by assumption)];done) |(rw [fE (by assumption) (by assumption) (by assumption)];done) |(rw [fB (by assumption) (by assumption) (by assumption) (jM (fun j x hj hx=>hallk j x (by omega) hx))];done),rfl⟩
 refine Y.skip (Y.g (Y.seq (Y.seq (Y.region (Y.fa rfl (.s16 .g3) aP (Y.ld rfl bR .z .g1 (Y.ql rfl (bD rfl cQ (.t .z)) (Y.ql rfl (aR rfl .c) ?_))))))))
 refine Y.nt (Y.block ?_)
 refine Y.ai (γ:=Nat) (fun k=> [(29,.int .i64 (k:Int)),(28,.int .i64 (f.inodes.length:Int)),(27,.slice ai f.inodes.length ab),(1,.pointer (some ⟨g3,0,none⟩))]) (fun k=> [aH bK (kW (fU f.inodes)) [.slice bt (kW (fU f.inodes)).length bu],bV g3 27 2 1 [.slice ai f.inodes.length ab,.slice aj f.data.length ak]]) (fun k=>k≤f.inodes.length∧∀j x,j<k→f.inodes[j]? =some x→rA f.inodes x) (fun k=>f.inodes.length - k) 0 ⟨Nat.zero_le _,eN (q:=fun _ x=>rA f.inodes x)⟩ (.c .z (.c .g1 (.c .g2 (.c (.s16 .g7) .n)))) (fun _ h=>h.sel (.c .z (.c .z .n))) ?_
 rintro k ⟨hk,hallk⟩
 refine Y.seq (Y.region (Y.ql rfl (dA rfl (.t .z) (.t .g1)) (Y.nt (Y.seq ?_))))
 refine Y.u (.t .z) (fun cr=> ?_) (fun cr=> ?_)
 refine Y.skip (Y.g (Y.seq (Y.block (Y.seq (Y.region ?_)))))
 obtain⟨a2,ao,ac⟩:=a0 (by omega)
 subst ao
 obtain⟨ad,aa⟩:=aK (xs:=f.inodes) (j:=k) (by omega)
 obtain⟨cf,a3,a4,a5⟩:=ac.elem aa
 obtain⟨bv,bw,rfl,ap,aq⟩:=bY a3
 obtain⟨ar,au,rfl,bd,be,bf,bg⟩:=aD ap
 obtain⟨ae,af,rfl,bh,bi,bj,al⟩:=aD aq
 have ct:=cO (i:=((k:Nat):Int)) aa (by omega)
 have cu:=cP (a:=((k:Nat):Int)) aa (by omega)
 have a6:=dM a1 _ (List.mem_of_getElem? aa)
 refine Y.ql rfl (aB (j:=k) rfl cQ aT (.t .g3) (.t .g1) rfl (by omega)) ?_
 refine Y.ql rfl (qE rfl fH (.t .z) a4 a5 aT) ?_
 refine Y.el rfl (bB rfl sX rfl rfl) ?_
 rintro _ _ ⟨g17,rfl,rfl⟩
 refine Y.es (aE rfl) rfl (esW rfl (.t .z) (.t .g1) .z aT rfl rfl) ?_
 refine Y.nt (Y.seq (Y.region (Y.fa rfl .z bL (Y.ld rfl dX .z .z (Y.ql rfl (bD rfl dP (.t .z)) (Y.ql rfl (aR rfl .c) (Y.nil ?_)))))))
 refine Y.g (Y.block ?_)
 refine Y.ai (γ:=Nat) (fun q=> [(36,.int .i64 (q:Int)),(35,.int .i64 (ad.ents.length:Int)),(34,.slice ae ad.ents.length af),(29,.int .i64 (k:Int)),(28,.int .i64 (f.inodes.length:Int)),(27,.slice (some a2) f.inodes.length ab),(1,.pointer (some ⟨g3,0,none⟩))]) (fun q=> [bV g17 46 5 1 [.int .i64 ad.kind,.int .i64 ad.links,.int .i64 ad.size,.slice ar ad.blocks.length au,.slice ae ad.ents.length af],aH bK (kW (fU f.inodes)) [.slice bt (kW (fU f.inodes)).length bu],bV g3 27 2 1 [.slice (some a2) f.inodes.length ab,.slice aj f.data.length ak]]) (fun q=>q≤ad.ents.length∧∀j e,j<q→ad.ents[j]? =some e→¬oS f.inodes e) (fun q=>ad.ents.length - q) 0 ⟨Nat.zero_le _,eN (q:=fun _ e=>¬oS f.inodes e)⟩ (.c .z (.c .g1 (.c .g2 (.c .g8 (.c .g9 (.c .g10 (.c .g11 .n))))))) (fun _ h=>h.sel (.c .z (.c .z (.c .z .n)))) ?_
 rintro q ⟨hq,hallq⟩
 refine Y.seq (Y.region (Y.ql rfl (dA rfl (.t .z) (.t .g1)) (Y.nt (Y.seq ?_))))
 refine Y.u (.t .z) (fun cv=> ?_) (fun cv=> ?_)
 refine Y.skip (Y.g (Y.seq (Y.block (Y.seq (Y.region ?_)))))
 obtain⟨cw,av,aw⟩:=al (by omega)
 subst av
 obtain⟨ax,ag⟩:=aK (xs:=ad.ents) (j:=q) (by omega)
 obtain⟨cg,a7,a8,a9⟩:=aw.elem ag
 obtain⟨rfl,bx⟩:=eY a7
 have ch:=oN a6 _ _ ag
 refine Y.ql rfl (aB (j:=q) rfl dP fA (.t .g3) (.t .g1) rfl (by omega)) ?_
 refine Y.ql rfl (qE rfl tG (.t .z) a8 a9 fA) ?_
 refine Y.el rfl (bB rfl aD8 rfl rfl) ?_
 rintro _ _ ⟨g22,rfl,rfl⟩
 refine Y.es (aE rfl) rfl (esW rfl (.t .z) (.t .g1) .z fA rfl rfl) ?_
 refine Y.nt (Y.seq ?_)
 refine Y.sel (.c .g2 (.c .z (.c .z (.c .z .n)))) ?_
 refine Y.dr .g1 16 fR ?_
 refine Y.sc (qs 0 4++ [(4,false),(5,true),(6,true)]) (by kernel_rfl) ?_
 refine Y.df rfl rfl .g1 .z gG (Y.dl rfl rfl .g1 bP .z .z (Y.df rfl rfl .g1 .g12 aP (Y.dl rfl rfl .g1 bR .z .g2 ?_)))
 refine Y.call (aC rfl rfl) rfl (by decide) rfl (bE rfl Tryz.func49 rfl rfl (bG (.t .z))) .n (fun _ _ hs tr=>aLr (tr.ctx ah)) ?_
 rintro _ _ ⟨rfl,rfl⟩
 refine Y.m .n ?_
 refine Y.sk .g1 ?_
 refine Y.dk rfl rfl .g1 (nH rfl (.t .g3) (.t .z)) (Y.dm rfl rfl .g1 .z (Y.w ?_))
 refine Y.al .z (fun g23=> ?_) (fun g23=> ?_)
 refine Y.sc (qs 7 9) (by kernel_rfl) ?_
 refine Y.am rfl rfl rfl .z rfl rfl (by decide) rfl .g1 ?_
 refine Y.am rfl rfl rfl .g1 rfl rfl (by decide) rfl .g1 ?_
 refine Y.am rfl rfl rfl .g2 rfl rfl (by decide) rfl .g1 ?_
 refine Y.am rfl rfl rfl .g3 rfl rfl (by decide) rfl .g1 ?_
 refine Y.am rfl rfl rfl .g4 rfl rfl (by decide) rfl .g1 ?_
 refine Y.am rfl rfl rfl .g5 rfl rfl (by decide) rfl .g1 ?_
 refine Y.am rfl rfl rfl .g6 rfl rfl (by decide) rfl .g1 ?_
 refine Y.am rfl rfl rfl .g7 rfl rfl (by decide) rfl .g1 ?_
 refine Y.dk rfl rfl .g1 (bI rfl (.t .g8) .c) (Y.w ?_)
 refine Y.af (by kernel_rfl) ?_
 refine Y.g ?_
 refine Y.aq (.t .z) ?_
 refine Y.seq (Y.region (Y.ql rfl (aA rfl .c) (Y.nt (Y.ret (Y.v (Y.j (Y.j ?_)))))))
 refine Y.v (Y.v (Y.j (Y.j (Y.v (Y.j ?_)))))
 refine Y.i (aU rfl .z) .n ?_
 exact⟨by first |(rw [dN (by assumption)];done) |(rw [fD (by assumption) (by assumption)];done) |(rw [fE (by assumption) (by assumption) (by assumption)];done) |(rw [oE (by assumption) (by assumption) (by assumption) (qH aa ag (by first | exact oX (by assumption) |(show aY f.inodes ax.ino=0;omega)))];done) |(rw [fB (by assumption) (by assumption) (by assumption) (jM (fun j x hj hx=>hallk j x (by omega) hx))];done),rfl⟩
 refine Y.sc (qs 7 9) (by kernel_rfl) ?_
 refine Y.aj rfl rfl rfl .z rfl (by decide) rfl .g1 (aN rfl (.t (.s16 .g1)) (fun _=>aP _ _)) ?_
 refine Y.aj rfl rfl rfl .g1 rfl (by decide) rfl .g1 (aM rfl bR (.t .z) (WS.g .g2 rfl)) ?_
 refine Y.aj rfl rfl rfl .g2 rfl (by decide) rfl .g1 (aN rfl (.t .g9) (fun _=>gG _ _)) ?_
 refine Y.aj rfl rfl rfl .g3 rfl (by decide) rfl .g1 (aM rfl bP (.t .z) (WS.g .z rfl)) ?_
 obtain⟨c0,am⟩:=aK (xs:=f.inodes) (j:=Int.toNat ax.ino) (by omega)
 obtain⟨ci,ba,bb,bc⟩:=ac.elem am
 obtain⟨bz,b0,rfl,ay,az⟩:=bY ba
 obtain⟨b1,b2,rfl,bk,bm,bn,bo⟩:=aD ay
 obtain⟨b3,b5,rfl,bp,bq,br,bs⟩:=aD az
 have cx:=cO (i:=ax.ino) am (by omega)
 have cy:=cP (a:=ax.ino) am (by omega)
 have cj:=dM a1 _ (List.mem_of_getElem? am)
 refine Y.aj rfl rfl rfl .g4 rfl (by decide) rfl .g1 (aB (j:=Int.toNat ax.ino) rfl cQ aT (.t .g2) (.t .z) (by omega) (by omega)) ?_
 refine Y.aj rfl rfl rfl .g5 rfl (by decide) rfl .g1 (aN rfl (.t .z) (fun _=>bS _ _)) ?_
 refine Y.aj rfl rfl rfl .g6 rfl (by decide) rfl .g1 (aM rfl bP (.t .z) (WS.el bb bc rfl)) ?_
 refine Y.aj rfl rfl rfl .g7 rfl (by decide) rfl .g1 (bU rfl (.t .z) .c) ?_
 refine Y.dk rfl rfl .g1 (bH rfl (.t .g8) (.t .z)) (Y.w ?_)
 refine Y.af (by kernel_rfl) ?_
 refine Y.g ?_
 refine Y.u (.t .z) (fun cz=> ?_) (fun cz=> ?_)
 refine Y.seq (Y.region (Y.ql rfl (aA rfl .c) (Y.nt (Y.ret (Y.v (Y.j (Y.j ?_)))))))
 refine Y.v (Y.v (Y.j (Y.j (Y.v (Y.j ?_)))))
 refine Y.i (aU rfl .z) .n ?_
 exact⟨by first |(rw [dN (by assumption)];done) |(rw [fD (by assumption) (by assumption)];done) |(rw [fE (by assumption) (by assumption) (by assumption)];done) |(rw [oE (by assumption) (by assumption) (by assumption) (qH aa ag (by first | exact oX (by assumption) |(show aY f.inodes ax.ino=0;omega)))];done) |(rw [fB (by assumption) (by assumption) (by assumption) (jM (fun j x hj hx=>hallk j x (by omega) hx))];done),rfl⟩
 refine Y.skip (Y.ab (Y.g (Y.region ?_)))
 refine Y.ql rfl (bN (c:=((q+1:Nat):Int)) rfl (.t (.s16 .g4)) .c (wr (by omega) (by omega) (by omega))) ?_
 refine Y.er (.s16 .g5) (Y.mv rfl .z (Y.nil ?_))
 refine Y.ae (q+1) ⟨by omega,dS (q:=fun _ e=>¬oS f.inodes e) hallq ag (fun hb=>by have hbb:aY f.inodes ax.ino=0:=hb;omega)⟩ (by first | omega |(dsimp only;omega)) (.c .z (.c (.s16 .g6) (.c (.s16 .g7) (.c (.s16 .g8) (.c (.s16 .g9) (.c (.s16 .g10) (.c (.s16 .g11) .n))))))) (fun _ h=>h.sel (.c .g2 (.c .z (.c .g1 .n))))
 refine Y.exit (Y.y (Y.y (Y.ag (Y.ab (Y.g (Y.region ?_))))))
 refine Y.ql rfl (bN (c:=((k+1:Nat):Int)) rfl (.t .g4) .c (wr (by omega) (by omega) (by omega))) ?_
 refine Y.er .g5 (Y.mv rfl .z (Y.nil ?_))
 refine Y.ae (k+1) ⟨by omega,dS (q:=fun _ x=>rA f.inodes x) hallk aa (fun j e he=>hallq j e (by have:=(List.getElem?_eq_some_iff.1 he).1;omega) he)⟩ (by first | omega |(dsimp only;omega)) (.c .z (.c .g6 (.c .g7 (.c .g8 .n)))) (fun _ h=>h.sel (.c .g1 (.c .g1 .n)))
 refine Y.exit (Y.y (Y.y (Y.ag (Y.g (Y.seq (Y.region (Y.ql rfl (aA rfl .c) (Y.nil ?_))))))))
 refine Y.g (Y.ret ?_)
 refine Y.i (aU rfl .z) .n ?_
 exact⟨by first |(rw [dN (by assumption)];done) |(rw [fD (by assumption) (by assumption)];done) |(rw [fE (by assumption) (by assumption) (by assumption)];done) |(rw [fB (by assumption) (by assumption) (by assumption) (jM (fun j x hj hx=>hallk j x (by omega) hx))];done),rfl⟩

theorem aL4 {w0:World}{S0:Bs}{f:DFs}{az:Addr} (h0:eV dV w0 (FF w0 S0) az f):
    Calls Tryz.prog 37 #[.pointer (some az)] w0 (aI w0 S0 (fun r l=>r= .int .i64 (aX f)∧l= [])):=by
 obtain⟨ec,ab,dg,ac⟩:=id h0
 obtain⟨dh,di,rfl,ak,bx⟩:=bZ dg
 obtain⟨dj,dp,rfl,cp,cq,cr,a0⟩:=aD ak
 obtain⟨ds,dt,rfl,cs,ct,cu,a1⟩:=aD bx
 refine Y.enter (N:=122) Tryz.func37 rfl rfl (by simp) [(0,.pointer (some az))] (by simp) (l0:= []) trivial ?_
 refine Y.seq (Y.region (Y.ql rfl (aA rfl .c) (Y.nt (Y.seq (Y.seq (Y.region (Y.mv rfl .g1 ?_)))))))
 refine Y.nc rfl .z (Y.fa rfl .z aP (Y.le rfl bR .z ab ac ?_))
 refine Y.cl rfl rfl Tryz.func69 rfl rfl (bG (.t .z)) .n (fun _ _ hs tr=>aNh (tr.ctx ak)) ?_
 rintro _ _ ⟨rfl,rfl⟩
 refine Y.m .n ?_
 refine Y.as rfl .z (Y.nt (Y.seq (Y.region (Y.mv rfl .z (Y.ql rfl (bW rfl (.t .z) .c) (Y.nt ?_))))))
 refine Y.ac (.t .z) (fun b3=> ?_) (fun b3=> ?_)
 refine Y.seq (Y.region (Y.mv rfl .g2 (Y.er .g9 (Y.as rfl .z (Y.nt (Y.ret (Y.j ?_)))))))
 refine Y.i (aU rfl .z) .n ?_
 exact⟨by first |(rw [dN (by rw [dO (by assumption)];assumption),dO (by assumption)];done) |(rw [dN (by rw [dQ (by assumption) (by omega)];decide),dQ (by assumption) (by omega)];done) |(rw [fD (cG (by assumption) (by omega) (by omega) (by omega)) (by assumption)];done) |(rw [fE (cG (by assumption) (by omega) (by omega) (by omega)) (gK (fun j b hj hb=>hallz j b (by omega) hb)) (by assumption)];done) |(rw [fB (cG (by assumption) (by omega) (by omega) (by omega)) (gK (fun j b hj hb=>hallz j b (by omega) hb)) (by assumption) (jM (fun j x hj hx=>hallk j x (by omega) hx))];done),rfl⟩
 refine Y.skip (Y.g (Y.seq (Y.seq (Y.region (Y.mv rfl .g9 (Y.nc rfl .z (Y.fa rfl .z aP (Y.le rfl bR .z ab ac ?_))))))))
 refine Y.ql rfl (bD rfl cQ (.t .z)) (Y.ql rfl (bU rfl (.t .z) .c) (Y.mv rfl .z ?_))
 refine Y.al .z (fun g4=> ?_) (fun g4=> ?_)
 refine Y.r rfl rfl .z rfl rfl (by decide) rfl ?_
 refine Y.r rfl rfl .g1 rfl rfl (by decide) rfl ?_
 refine Y.r rfl rfl .g2 rfl rfl (by decide) rfl ?_
 refine Y.r rfl rfl .g3 rfl rfl (by decide) rfl ?_
 refine Y.r rfl rfl .g4 rfl rfl (by decide) rfl ?_
 refine Y.r rfl rfl .g5 rfl rfl (by decide) rfl ?_
 refine Y.r rfl rfl .g6 rfl rfl (by decide) rfl ?_
 refine Y.r rfl rfl .g7 rfl rfl (by decide) rfl ?_
 refine Y.ql rfl (bI rfl (.t .g8) .c) (Y.mv rfl .z ?_)
 refine Y.r rfl rfl .z rfl rfl (by decide) rfl ?_
 refine Y.r rfl rfl .g1 rfl rfl (by decide) rfl ?_
 refine Y.r rfl rfl .g2 rfl rfl (by decide) rfl ?_
 refine Y.r rfl rfl .g3 rfl rfl (by decide) rfl ?_
 refine Y.r rfl rfl .g4 rfl rfl (by decide) rfl ?_
 refine Y.r rfl rfl .g5 rfl rfl (by decide) rfl ?_
 refine Y.ql rfl (bI rfl (.t .g6) .c) (Y.nt ?_)
 refine Y.aq (.t .z) ?_
 refine Y.seq (Y.region (Y.er (.s16 .g16) (Y.ql rfl (aA rfl .c) (Y.nt (Y.ret (Y.j ?_))))))
 refine Y.i (aU rfl .z) .n ?_
 exact⟨by first |(rw [dN (by rw [dO (by assumption)];assumption),dO (by assumption)];done) |(rw [dN (by rw [dQ (by assumption) (by omega)];decide),dQ (by assumption) (by omega)];done) |(rw [fD (cG (by assumption) (by omega) (by omega) (by omega)) (by assumption)];done) |(rw [fE (cG (by assumption) (by omega) (by omega) (by omega)) (gK (fun j b hj hb=>hallz j b (by omega) hb)) (by assumption)];done) |(rw [fB (cG (by assumption) (by omega) (by omega) (by omega)) (gK (fun j b hj hb=>hallz j b (by omega) hb)) (by assumption) (jM (fun j x hj hx=>hallk j x (by omega) hx))];done),rfl⟩
 refine Y.qg rfl rfl .z rfl rfl rfl (aR rfl (.t .g16)) ?_
 refine Y.qg rfl rfl .g1 rfl rfl rfl (dZ rfl (.t .z)) ?_
 refine Y.qg rfl rfl .g2 rfl rfl rfl (aN rfl (.t .z) (fun _=>aP _ _)) ?_
 refine Y.qg rfl rfl .g3 rfl rfl rfl (aM rfl bR (.t .z) (WS.el ab ac rfl)) ?_
 obtain⟨ed,a2,ad⟩:=a0 (by omega)
 subst a2
 obtain⟨x6,bf⟩:=aK (xs:=f.inodes) (j:=0) (by omega)
 obtain⟨du,bz,b0,b1⟩:=ad.elem bf
 obtain⟨cv,cw,rfl,a3,a4⟩:=bY bz
 obtain⟨cx,cy,rfl,b2,b4,b5,b6⟩:=aD a3
 obtain⟨cz,c0,rfl,b7,b8,b9,ca⟩:=aD a4
 have ee:=cO (i:=0) bf (by omega)
 have ef:=cP (a:=0) bf (by omega)
 have dv:=dM b3 _ (List.mem_of_getElem? bf)
 refine Y.qg rfl rfl .g4 rfl rfl rfl (aB (j:=0) rfl cQ aT (.t .z) .c rfl (by omega)) ?_
 refine Y.qg rfl rfl .g5 rfl rfl rfl (aN rfl (.t .z) (fun _=>bS _ _)) ?_
 refine Y.qg rfl rfl .g6 rfl rfl rfl (aM rfl bP (.t .z) (WS.el b0 b1 rfl)) ?_
 refine Y.qg rfl rfl .g7 rfl rfl rfl (bW rfl (.t .z) .c) ?_
 refine Y.ql rfl (bH rfl (.t .g8) (.t .z)) (Y.mv rfl .z ?_)
 refine Y.an .z (fun g10=> ?_) (fun g10=> ?_)
 refine Y.r rfl rfl .z rfl rfl (by decide) rfl ?_
 refine Y.r rfl rfl .g1 rfl rfl (by decide) rfl ?_
 refine Y.r rfl rfl .g2 rfl rfl (by decide) rfl ?_
 refine Y.r rfl rfl .g3 rfl rfl (by decide) rfl ?_
 refine Y.r rfl rfl .g4 rfl rfl (by decide) rfl ?_
 refine Y.r rfl rfl .g5 rfl rfl (by decide) rfl ?_
 refine Y.ql rfl (bI rfl (.t .g6) .c) (Y.nt ?_)
 refine Y.aq (.t .z) ?_
 refine Y.seq (Y.region (Y.er (.s16 .g16) (Y.ql rfl (aA rfl .c) (Y.nt (Y.ret (Y.j ?_))))))
 refine Y.i (aU rfl .z) .n ?_
 exact⟨by first |(rw [dN (by rw [dO (by assumption)];assumption),dO (by assumption)];done) |(rw [dN (by rw [dQ (by assumption) (by omega)];decide),dQ (by assumption) (by omega)];done) |(rw [fD (cG (by assumption) (by omega) (by omega) (by omega)) (by assumption)];done) |(rw [fE (cG (by assumption) (by omega) (by omega) (by omega)) (gK (fun j b hj hb=>hallz j b (by omega) hb)) (by assumption)];done) |(rw [fB (cG (by assumption) (by omega) (by omega) (by omega)) (gK (fun j b hj hb=>hallz j b (by omega) hb)) (by assumption) (jM (fun j x hj hx=>hallk j x (by omega) hx))];done),rfl⟩
 refine Y.qg rfl rfl .z rfl rfl rfl (aR rfl (.t (.s16 .g10))) ?_
 refine Y.qg rfl rfl .g1 rfl rfl rfl (dZ rfl (.t .z)) ?_
 refine Y.qg rfl rfl .g2 rfl rfl rfl (aN rfl (.t .z) (fun _=>gQ _ _)) ?_
 refine Y.qg rfl rfl .g3 rfl rfl rfl (aM rfl mS (.t .z) (WS.el ab ac rfl)) ?_
 refine Y.qg rfl rfl .g4 rfl rfl rfl (bD rfl pH (.t .z)) ?_
 refine Y.qg rfl rfl .g5 rfl rfl rfl (bW rfl (.t .z) .c) ?_
 refine Y.ql rfl (bH rfl (.t .g6) (.t .z)) (Y.nt ?_)
 refine Y.ac (.t .z) (fun dw=> ?_) (fun dw=> ?_)
 refine Y.seq (Y.region (Y.er (.s16 .g16) (Y.ql rfl (aA rfl .c) (Y.nt (Y.ret (Y.j ?_))))))
 refine Y.i (aU rfl .z) .n ?_
 exact⟨by first |(rw [dN (by rw [dO (by assumption)];assumption),dO (by assumption)];done) |(rw [dN (by rw [dQ (by assumption) (by omega)];decide),dQ (by assumption) (by omega)];done) |(rw [fD (cG (by assumption) (by omega) (by omega) (by omega)) (by assumption)];done) |(rw [fE (cG (by assumption) (by omega) (by omega) (by omega)) (gK (fun j b hj hb=>hallz j b (by omega) hb)) (by assumption)];done) |(rw [fB (cG (by assumption) (by omega) (by omega) (by omega)) (gK (fun j b hj hb=>hallz j b (by omega) hb)) (by assumption) (jM (fun j x hj hx=>hallk j x (by omega) hx))];done),rfl⟩
 refine Y.skip (Y.g (Y.seq (Y.seq (Y.region (Y.ql rfl (aA rfl .c) (Y.nt (Y.block ?_)))))))
 refine Y.ai (γ:=Nat) (fun z=> [(4,.int .i64 (z:Int)),(0,.pointer (some az))]) (fun z=> []) (fun z=>z≤f.data.length∧∀j b,j<z→f.data[j]? =some b→¬(8:Int)<(b.length:Int)) (fun z=>f.data.length - z) 0 ⟨Nat.zero_le _,eN (q:=fun _ (b:List UInt8)=>¬(8:Int)<(b.length:Int))⟩ (.c .z (.c (.s16 (.s16 .g2)) .n)) (fun _ h=>h) ?_
 rintro z ⟨hz,hallz⟩
 refine Y.seq (Y.seq (Y.region (Y.mv rfl .z (Y.mv rfl .g2 (Y.nc rfl .z (Y.fa rfl .z gQ (Y.le rfl mS .z ab ac (Y.ql rfl (bD rfl pH (.t .z)) ?_))))))))
 refine Y.ql rfl (dA rfl (.t .g5) (.t .z)) (Y.nt ?_)
 refine Y.u (.t .z) (fun dx=> ?_) (fun dx=> ?_)
 refine Y.skip (Y.g (Y.seq (Y.block (Y.seq (Y.region (Y.mv rfl .g8 (Y.nc rfl .z (Y.fa rfl .z gQ ?_))))))))
 refine Y.le rfl mS .z ab ac (Y.mv rfl .g11 ?_)
 obtain⟨dy,al,am⟩:=a1 (by omega)
 subst al
 obtain⟨eg,an⟩:=aK (xs:=f.data) (j:=z) (by omega)
 obtain⟨c1,ah,a5,a6⟩:=am.elem an
 obtain⟨dz,rfl⟩:=lS ah
 obtain⟨d0,d1,rfl,c2,c3,c4,c5⟩:=aD ah
 refine Y.ql rfl (aB (j:=z) rfl pH nY (.t .g1) (.t .z) rfl (by omega)) ?_
 refine Y.ql rfl (aM rfl oG (.t .z) (WS.i a5 a6 rfl)) (Y.ql rfl (bD rfl iJ (.t .z)) (Y.ql rfl (fI rfl (.t .z) .c) (Y.nt ?_)))
 refine Y.u (.t .z) (fun d2=> ?_) (fun d2=> ?_)
 refine Y.seq (Y.region (Y.ql rfl (aA rfl .c) (Y.nt (Y.ret (Y.v (Y.j (Y.j ?_)))))))
 refine Y.v (Y.j ?_)
 refine Y.i (aU rfl .z) .n ?_
 exact⟨by first |(rw [dN (by rw [dO (by assumption)];assumption),dO (by assumption)];done) |(rw [dN (by rw [dQ (by assumption) (by omega)];decide),dQ (by assumption) (by omega)];done) |(rw [fD (cG (by assumption) (by omega) (by omega) (by omega)) (aHg an (by assumption))];done) |(rw [fE (cG (by assumption) (by omega) (by omega) (by omega)) (gK (fun j b hj hb=>hallz j b (by omega) hb)) (by assumption)];done) |(rw [fB (cG (by assumption) (by omega) (by omega) (by omega)) (gK (fun j b hj hb=>hallz j b (by omega) hb)) (by assumption) (jM (fun j x hj hx=>hallk j x (by omega) hx))];done),rfl⟩
 refine Y.skip (Y.ab (Y.g (Y.region (Y.mv rfl .g16 ?_))))
 refine Y.ql rfl (bN (c:=((z+1:Nat):Int)) rfl (.t .z) .c (wr (by omega) (by omega) (by omega))) ?_
 refine Y.er (.s16 .g2) (Y.as rfl .z (Y.nil ?_))
 refine Y.ae (z+1) ⟨by omega,dS (q:=fun _ (b:List UInt8)=>¬(8:Int)<(b.length:Int)) hallz an (by assumption)⟩ (by first | omega |(dsimp only;omega)) (.c .z (.c (.s16 .g3) .n)) (fun _ h=>h)
 refine Y.exit (Y.y (Y.y (Y.ag (Y.g (Y.seq (Y.seq (Y.region (Y.mv rfl .g8 ?_))))))))
 refine Y.nc rfl .z (Y.fa rfl .z aP (Y.le rfl bR .z ab ac ?_))
 refine Y.cl rfl rfl Tryz.func70 rfl rfl (bG (.t .z)) .n (fun _ _ hs tr=>aNn (tr.ctx ak) (by assumption)) ?_
 rintro _ _ ⟨eh,rfl,rfl⟩
 refine Y.m (.c .n) ?_
 refine Y.h (WS.a .z) ?_
 rintro⟨ao,ap,rfl,c6,c7,c8⟩
 refine Y.mv rfl .z (Y.ql rfl (bF (v:= .slice ao (cV (oI f.inodes) 20).length ap) rfl (.t .z) rfl) (Y.ql rfl (bF (v:= .bool (decide (fU f.inodes).Nodup)) rfl (.t .g1) rfl) (Y.as rfl .g1 (Y.as rfl .g1 (Y.nt (Y.seq (Y.region ?_)))))))
 refine Y.mv rfl .z (Y.ql rfl (fF rfl (.t .z)) (Y.nt ?_))
 refine Y.ac (.t .z) (fun d3=> ?_) (fun d3=> ?_)
 refine Y.seq (Y.region (Y.ql rfl (aA rfl .c) (Y.nt (Y.ret (Y.j ?_)))))
 refine Y.i (aU rfl .z) .n ?_
 exact⟨by first |(rw [dN (by rw [dO (by assumption)];assumption),dO (by assumption)];done) |(rw [dN (by rw [dQ (by assumption) (by omega)];decide),dQ (by assumption) (by omega)];done) |(rw [fD (cG (by assumption) (by omega) (by omega) (by omega)) (by assumption)];done) |(rw [fE (cG (by assumption) (by omega) (by omega) (by omega)) (gK (fun j b hj hb=>hallz j b (by omega) hb)) (by assumption)];done) |(rw [fB (cG (by assumption) (by omega) (by omega) (by omega)) (gK (fun j b hj hb=>hallz j b (by omega) hb)) (by assumption) (jM (fun j x hj hx=>hallk j x (by omega) hx))];done),rfl⟩
 refine Y.skip (Y.g (Y.seq (Y.seq (Y.region (Y.ql rfl (aA rfl .c) (Y.nt (Y.block ?_)))))))
 refine Y.ai (γ:=Nat) (fun k=> [(7,.int .i64 (k:Int)),(0,.pointer (some az))]) (fun k=> [aH bK (cV (oI f.inodes) 20) [.slice ao (cV (oI f.inodes) 20).length ap]]) (fun k=>k≤f.inodes.length∧∀j x,j<k→f.inodes[j]? =some x→rA f.inodes x) (fun k=>f.inodes.length - k) 0 ⟨Nat.zero_le _,eN (q:=fun _ x=>rA f.inodes x)⟩ (.c .z (.c (.s16 .g5) .n)) (fun _ h=>h.sel (.c .z .n)) ?_
 rintro k ⟨hk,hallk⟩
 refine Y.seq (Y.seq (Y.region (Y.mv rfl .z (Y.mv rfl .g2 (Y.nc rfl .z (Y.fa rfl .z aP (Y.le rfl bR .z ab ac (Y.ql rfl (bD rfl cQ (.t .z)) ?_))))))))
 refine Y.ql rfl (dA rfl (.t .g5) (.t .z)) (Y.nt ?_)
 refine Y.u (.t .z) (fun d4=> ?_) (fun d4=> ?_)
 refine Y.skip (Y.g (Y.seq (Y.block (Y.seq (Y.region (Y.ql rfl (aA rfl .c) (Y.nt ?_)))))))
 refine Y.block ?_
 obtain⟨bg,aa⟩:=aK (xs:=f.inodes) (j:=k) (by omega)
 obtain⟨c9,a7,ai,aj⟩:=ad.elem aa
 obtain⟨cb,cc,rfl,aq,ar⟩:=bY a7
 obtain⟨cd,ce,rfl,bh,bi,bj,bk⟩:=aD aq
 obtain⟨cf,cg,rfl,bm,bn,bo,af⟩:=aD ar
 have d5:=cO (i:=((k:Nat):Int)) aa (by omega)
 have d6:=cP (a:=((k:Nat):Int)) aa (by omega)
 have a8:=dM b3 _ (List.mem_of_getElem? aa)
 refine Y.ai (γ:=Nat) (fun q=> [(8,.int .i64 (q:Int)),(7,.int .i64 (k:Int)),(0,.pointer (some az))]) (fun q=> [aH bK (cV (oI f.inodes) 20) [.slice ao (cV (oI f.inodes) 20).length ap]]) (fun q=>q≤bg.ents.length∧∀j e,j<q→bg.ents[j]? =some e→¬oS f.inodes e) (fun q=>bg.ents.length - q) 0 ⟨Nat.zero_le _,eN (q:=fun _ e=>¬oS f.inodes e)⟩ (.c .z (.c .g8 (.c .g9 .n))) (fun _ h=>h.sel (.c .z .n)) ?_
 rintro q ⟨hq,hallq⟩
 refine Y.seq (Y.seq (Y.region (Y.mv rfl .z (Y.mv rfl .g3 (Y.nc rfl .z (Y.fa rfl .z aP (Y.le rfl bR .z ab ac (Y.mv rfl .g6 ?_))))))))
 refine Y.ql rfl (aB (j:=k) rfl cQ aT (.t .g1) (.t .z) rfl (by omega)) ?_
 refine Y.fa rfl .z bL (Y.le rfl dX .z ai aj (Y.ql rfl (bD rfl dP (.t .z)) (Y.ql rfl (dA rfl (.t .g9) (.t .z)) (Y.nt ?_))))
 refine Y.u (.t .z) (fun d7=> ?_) (fun d7=> ?_)
 refine Y.skip (Y.g (Y.seq (Y.block (Y.seq (Y.region (Y.mv rfl .g13 (Y.nc rfl .z (Y.fa rfl .z aP ?_))))))))
 refine Y.le rfl bR .z ab ac (Y.mv rfl .g16 ?_)
 refine Y.ql rfl (aB (j:=k) rfl cQ aT (.t .g1) (.t .z) rfl (by omega)) ?_
 refine Y.fa rfl .z bL (Y.le rfl dX .z ai aj (Y.mv rfl (.s16 .g3) ?_))
 obtain⟨d8,au,av⟩:=af (by omega)
 subst au
 obtain⟨aw,ae⟩:=aK (xs:=bg.ents) (j:=q) (by omega)
 obtain⟨da,a9,ba,bb⟩:=av.elem ae
 obtain⟨rfl,ch⟩:=eY a9
 have db:=oN a8 _ _ ae
 refine Y.ql rfl (aB (j:=q) rfl dP fA (.t .g1) (.t .z) rfl (by omega)) ?_
 refine Y.fa rfl .z gG (Y.le rfl bP .z ba bb (Y.as rfl .z (Y.nt (Y.seq (Y.region (Y.mv rfl .z (Y.mv rfl (.s16 .g11) ?_)))))))
 refine Y.nc rfl .z (Y.fa rfl .z aP (Y.le rfl bR .z ab ac (Y.ql rfl (bD rfl cQ (.t .z)) (Y.ql rfl (nH rfl (.t .g5) (.t .z)) (Y.mv rfl .z ?_)))))
 refine Y.al .z (fun g31=> ?_) (fun g31=> ?_)
 refine Y.r rfl rfl .z rfl rfl (by decide) rfl ?_
 refine Y.r rfl rfl .g1 rfl rfl (by decide) rfl ?_
 refine Y.r rfl rfl .g2 rfl rfl (by decide) rfl ?_
 refine Y.r rfl rfl .g3 rfl rfl (by decide) rfl ?_
 refine Y.r rfl rfl .g4 rfl rfl (by decide) rfl ?_
 refine Y.r rfl rfl .g5 rfl rfl (by decide) rfl ?_
 refine Y.r rfl rfl .g6 rfl rfl (by decide) rfl ?_
 refine Y.r rfl rfl .g7 rfl rfl (by decide) rfl ?_
 refine Y.r rfl rfl .g8 rfl rfl (by decide) rfl ?_
 refine Y.ql rfl (bI rfl (.t .g9) .c) (Y.nt ?_)
 refine Y.aq (.t .z) ?_
 refine Y.seq (Y.region (Y.ql rfl (aA rfl .c) (Y.nt (Y.ret (Y.v (Y.j (Y.j ?_)))))))
 refine Y.v (Y.v (Y.j (Y.j (Y.v (Y.j ?_)))))
 refine Y.i (aU rfl .z) .n ?_
 exact⟨by first |(rw [dN (by rw [dO (by assumption)];assumption),dO (by assumption)];done) |(rw [dN (by rw [dQ (by assumption) (by omega)];decide),dQ (by assumption) (by omega)];done) |(rw [fD (cG (by assumption) (by omega) (by omega) (by omega)) (by assumption)];done) |(rw [fE (cG (by assumption) (by omega) (by omega) (by omega)) (gK (fun j b hj hb=>hallz j b (by omega) hb)) (by assumption)];done) |(rw [oE (cG (by assumption) (by omega) (by omega) (by omega)) (gK (fun j b hj hb=>hallz j b (by omega) hb)) (by assumption) (qH aa ae (by first | exact oX (by assumption) |(show aY f.inodes aw.ino=0;omega)))];done) |(rw [fB (cG (by assumption) (by omega) (by omega) (by omega)) (gK (fun j b hj hb=>hallz j b (by omega) hb)) (by assumption) (jM (fun j x hj hx=>hallk j x (by omega) hx))];done),rfl⟩
 refine Y.qg rfl rfl .z rfl rfl rfl (aR rfl (.t (.s16 (.s16 .g2)))) ?_
 refine Y.qg rfl rfl .g1 rfl rfl rfl (dZ rfl (.t .z)) ?_
 refine Y.qg rfl rfl .g2 rfl rfl rfl (aN rfl (.t .z) (fun _=>aP _ _)) ?_
 refine Y.qg rfl rfl .g3 rfl rfl rfl (aM rfl bR (.t .z) (WS.el ab ac rfl)) ?_
 refine Y.qg rfl rfl .g4 rfl rfl rfl (aR rfl (.t .g12)) ?_
 obtain⟨ei,ag⟩:=aK (xs:=f.inodes) (j:=Int.toNat aw.ino) (by omega)
 obtain⟨dc,bc,bd,be⟩:=ad.elem ag
 obtain⟨ci,cj,rfl,ax,ay⟩:=bY bc
 obtain⟨ck,cm,rfl,bp,bq,br,bs⟩:=aD ax
 obtain⟨cn,co,rfl,bt,bu,bv,bw⟩:=aD ay
 have d9:=cO (i:=aw.ino) ag (by omega)
 have ea:=cP (a:=aw.ino) ag (by omega)
 have dd:=dM b3 _ (List.mem_of_getElem? ag)
 refine Y.qg rfl rfl .g5 rfl rfl rfl (aB (j:=Int.toNat aw.ino) rfl cQ aT (.t .g1) (.t .z) (by omega) (by omega)) ?_
 refine Y.qg rfl rfl .g6 rfl rfl rfl (aN rfl (.t .z) (fun _=>bS _ _)) ?_
 refine Y.qg rfl rfl .g7 rfl rfl rfl (aM rfl bP (.t .z) (WS.el bd be rfl)) ?_
 refine Y.qg rfl rfl .g8 rfl rfl rfl (bU rfl (.t .z) .c) ?_
 refine Y.ql rfl (bH rfl (.t .g9) (.t .z)) (Y.nt ?_)
 refine Y.u (.t .z) (fun eb=> ?_) (fun eb=> ?_)
 refine Y.seq (Y.region (Y.ql rfl (aA rfl .c) (Y.nt (Y.ret (Y.v (Y.j (Y.j ?_)))))))
 refine Y.v (Y.v (Y.j (Y.j (Y.v (Y.j ?_)))))
 refine Y.i (aU rfl .z) .n ?_
 exact⟨by first |(rw [dN (by rw [dO (by assumption)];assumption),dO (by assumption)];done) |(rw [dN (by rw [dQ (by assumption) (by omega)];decide),dQ (by assumption) (by omega)];done) |(rw [fD (cG (by assumption) (by omega) (by omega) (by omega)) (by assumption)];done) |(rw [fE (cG (by assumption) (by omega) (by omega) (by omega)) (gK (fun j b hj hb=>hallz j b (by omega) hb)) (by assumption)];done) |(rw [oE (cG (by assumption) (by omega) (by omega) (by omega)) (gK (fun j b hj hb=>hallz j b (by omega) hb)) (by assumption) (qH aa ae (by first | exact oX (by assumption) |(show aY f.inodes aw.ino=0;omega)))];done) |(rw [fB (cG (by assumption) (by omega) (by omega) (by omega)) (gK (fun j b hj hb=>hallz j b (by omega) hb)) (by assumption) (jM (fun j x hj hx=>hallk j x (by omega) hx))];done),rfl⟩
 refine Y.skip (Y.ab (Y.g (Y.region (Y.mv rfl (.s16 (.s16 .g10)) ?_))))
 refine Y.ql rfl (bN (c:=((q+1:Nat):Int)) rfl (.t .z) .c (wr (by omega) (by omega) (by omega))) ?_
 refine Y.er (.s16 (.s16 .g12)) (Y.as rfl .z (Y.nil ?_))
 refine Y.ae (q+1) ⟨by omega,dS (q:=fun _ e=>¬oS f.inodes e) hallq ae (fun hb=>by have hbb:aY f.inodes aw.ino=0:=hb;omega)⟩ (by first | omega |(dsimp only;omega)) (.c .z (.c (.s16 (.s16 .g13)) (.c (.s16 (.s16 .g14)) .n))) (fun _ h=>h.sel (.c .z .n))
 refine Y.exit (Y.y (Y.y (Y.ag (Y.ab (Y.g (Y.region (Y.mv rfl .g12 ?_)))))))
 refine Y.ql rfl (bN (c:=((k+1:Nat):Int)) rfl (.t .z) .c (wr (by omega) (by omega) (by omega))) ?_
 refine Y.er .g14 (Y.as rfl .z (Y.nil ?_))
 refine Y.ae (k+1) ⟨by omega,dS (q:=fun _ x=>rA f.inodes x) hallk aa (fun j e he=>hallq j e (by have:=(List.getElem?_eq_some_iff.1 he).1;omega) he)⟩ (by first | omega |(dsimp only;omega)) (.c .z (.c .g15 .n)) (fun _ h=>h.sel (.c .z .n))
 refine Y.exit (Y.y (Y.y (Y.ag (Y.g (Y.seq (Y.region (Y.ql rfl (aA rfl .c) (Y.nil ?_))))))))
 refine Y.g (Y.ret ?_)
 refine Y.i (aU rfl .z) .n ?_
 exact⟨by first |(rw [dN (by rw [dO (by assumption)];assumption),dO (by assumption)];done) |(rw [dN (by rw [dQ (by assumption) (by omega)];decide),dQ (by assumption) (by omega)];done) |(rw [fD (cG (by assumption) (by omega) (by omega) (by omega)) (by assumption)];done) |(rw [fE (cG (by assumption) (by omega) (by omega) (by omega)) (gK (fun j b hj hb=>hallz j b (by omega) hb)) (by assumption)];done) |(rw [fB (cG (by assumption) (by omega) (by omega) (by omega)) (gK (fun j b hj hb=>hallz j b (by omega) hb)) (by assumption) (jM (fun j x hj hx=>hallk j x (by omega) hx))];done),rfl⟩

end Go.Proofs.YtmejbfmhaoilmaaGreatDoor

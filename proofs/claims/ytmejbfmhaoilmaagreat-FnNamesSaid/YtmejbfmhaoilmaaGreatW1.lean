/- What is proved: contracts of functions, one a function. No condition. -/
import Derived.Test.YtmejbfmhaoilmaaGreatBase1
import Derived.Test.YtmejbfmhaoilmaaGreatTypes
import Derived.Test.YtmejbfmhaoilmaaGreatBase0
namespace Go.Proofs.YtmejbfmhaoilmaaGreat
open Go Go.RowKit
set_option linter.unusedVariables false
set_option linter.unusedSimpArgs false
set_option maxHeartbeats 1000000
set_option maxRecDepth 20000
theorem xL {w0:World}{S0:Bs} (n:Int) (lo:Int) (hi:Int):
    Calls Tryz.prog 46 #[.int .i64 n,.int .i64 lo,.int .i64 hi] w0 (aJ w0 S0 (fun r l=>r= .bool (decide (lo≤n∧n≤hi))∧l= [])):=by
 refine Y.enter (N:=15) Tryz.func46 rfl rfl (by simp) [(0,.int .i64 n),(1,.int .i64 lo),(2,.int .i64 hi)] (by simp) (l0:= []) trivial ?_
 refine Y.seq (Y.region (Y.ql rfl (aA rfl .c) (Y.nt (Y.seq (Y.region (Y.mv rfl .g1 (Y.mv rfl .g3 ?_)))))))
 refine Y.ql rfl (lU rfl (.t .g1) (.t .z)) (Y.mv rfl .z ?_)
 refine Y.al .z (fun g1=> ?_) (fun g1=> ?_)
 refine Y.qg rfl rfl .z rfl rfl rfl (aV rfl (.t .g5)) ?_
 refine Y.qg rfl rfl .g1 rfl rfl rfl (aV rfl (.t .g8)) ?_
 refine Y.qg rfl rfl .g2 rfl rfl rfl (aCf rfl (.t .g1) (.t .z)) ?_
 refine Y.ql rfl (bO rfl (.t .g3) (.t .z)) (Y.er .g8 (Y.as rfl .z (Y.nt (Y.ret ?_))))
 refine Y.i (aY rfl .z) .n ?_
 exact⟨by first |(simp [*];done) |(simp;omega),rfl⟩
 refine Y.j rfl rfl .z rfl rfl (by decide) rfl ?_
 refine Y.j rfl rfl .g1 rfl rfl (by decide) rfl ?_
 refine Y.j rfl rfl .g2 rfl rfl (by decide) rfl ?_
 refine Y.ql rfl (bW rfl (.t .g3) .c) (Y.er .g8 (Y.as rfl .z (Y.nt (Y.ret ?_))))
 refine Y.i (aY rfl .z) .n ?_
 exact⟨by first |(simp [*];done) |(simp;omega),rfl⟩

theorem yY {w0:World}{S0:Bs} (n:Int) (lo:Int) (hi:Int):
    Calls Tryz.prog 84 #[.int .i64 n,.int .i64 lo,.int .i64 hi] w0 (aJ w0 S0 (fun r l=>r= .bool (decide (lo≤n∧n≤hi))∧l= [])):=by
 refine Y.enter (N:=15) Tryz.func84 rfl rfl (by simp) [(0,.int .i64 n),(1,.int .i64 lo),(2,.int .i64 hi)] (by simp) (l0:= []) trivial ?_
 refine Y.seq (Y.region (Y.ql rfl (aA rfl .c) (Y.nt (Y.seq (Y.region (Y.mv rfl .g1 (Y.mv rfl .g3 ?_)))))))
 refine Y.ql rfl (lU rfl (.t .g1) (.t .z)) (Y.mv rfl .z ?_)
 refine Y.al .z (fun g1=> ?_) (fun g1=> ?_)
 refine Y.qg rfl rfl .z rfl rfl rfl (aV rfl (.t .g5)) ?_
 refine Y.qg rfl rfl .g1 rfl rfl rfl (aV rfl (.t .g8)) ?_
 refine Y.qg rfl rfl .g2 rfl rfl rfl (aCf rfl (.t .g1) (.t .z)) ?_
 refine Y.ql rfl (bO rfl (.t .g3) (.t .z)) (Y.er .g8 (Y.as rfl .z (Y.nt (Y.ret ?_))))
 refine Y.i (aY rfl .z) .n ?_
 exact⟨by first |(simp [*];done) |(simp;omega),rfl⟩
 refine Y.j rfl rfl .z rfl rfl (by decide) rfl ?_
 refine Y.j rfl rfl .g1 rfl rfl (by decide) rfl ?_
 refine Y.j rfl rfl .g2 rfl rfl (by decide) rfl ?_
 refine Y.ql rfl (bW rfl (.t .g3) .c) (Y.er .g8 (Y.as rfl .z (Y.nt (Y.ret ?_))))
 refine Y.i (aY rfl .z) .n ?_
 exact⟨by first |(simp [*];done) |(simp;omega),rfl⟩

theorem aMq {w0:World}{S0:Bs}{xs:(List Int)}{v0:Value} (h0:bY.ro w0 (FF w0 S0) xs [v0]) {f:FuncId}{us:Array Value}{fn:Func} (hfn:Tryz.prog.funcs[f]? =some fn) (hbody:fn.body.isSome=true) (hname:(fn.name == "runtime.NumGoroutine")=false) {p:Int→Bool} (hf:∀w1 S1,(∀b,FF w0 S0 b→FF w1 S1 b∧w1.heap[b]? =w0.heap[b]?)→∀x:Int,Calls Tryz.prog f (#[.int .i64 x]++us) w1 (aJ w1 S1 (fun r l=>r= .bool (p x)∧l= []))):
    Calls Tryz.prog 144 #[v0,.func (.func f) #[] us] w0 (aJ w0 S0 (fun r l=>r= .int .i64 (eS p xs)∧l= [])):=by
 obtain⟨A0,c0,rfl,ai,aj,ak,ag⟩:=aH h0
 refine Y.enter (N:=19) Tryz.func144 rfl rfl (by simp) [(0,.slice A0 xs.length c0),(1,.func (.func f) #[] us)] (by simp) (l0:= []) trivial ?_
 refine Y.seq (Y.region (Y.ql rfl (aA rfl .c) (Y.nt (Y.seq (Y.seq (Y.region (Y.mv rfl .g1 ?_)))))))
 refine Y.ql rfl (bM rfl eQ (.t .z)) (Y.ql rfl (aV rfl .c) (Y.nt (Y.block ?_)))
 refine Y.aj (γ:=Nat) (fun k=> [(8,.int .i64 (k:Int)),(7,.int .i64 (xs.length:Int)),(0,.slice A0 xs.length c0),(1,.func (.func f) #[] us)]) (fun k=> []) (fun k=>k≤xs.length∧∀j x,j<k→xs[j]? =some x→p x=false) (fun k=>xs.length - k) 0 ⟨Nat.zero_le _,eV (q:=fun _ x=>p x=false)⟩ (.c .z (.c .g1 (.c .g4 (.c .g5 .n)))) (fun _ h=>h) ?_
 rintro k ⟨hk,hallk⟩
 refine Y.seq (Y.region (Y.ql rfl (dJ rfl (.t .z) (.t .g1)) (Y.nt (Y.seq ?_))))
 refine Y.u (.t .z) (fun b2=> ?_) (fun b2=> ?_)
 refine Y.skip (Y.g (Y.seq (Y.block (Y.seq (Y.region (Y.mv rfl .g1 (Y.as rfl .z (Y.nil ?_))))))))
 refine Y.g (Y.seq (Y.region (Y.mv rfl .g6 (Y.mv rfl .g6 (Y.mv rfl .g2 ?_)))))
 obtain⟨al,aa,ab⟩:=ag (by omega)
 subst aa
 obtain⟨x4,af⟩:=aI (xs:=xs) (j:=k) (by omega)
 obtain⟨ah,ac,ad,ae⟩:=ab.elem af
 obtain⟨rfl,am⟩:=ac
 refine Y.ql rfl (aC (j:=k) rfl eQ jQ (.t .g1) (.t .z) rfl (by omega)) ?_
 refine Y.ql rfl (aL rfl cF (.t .z) (WS.j ad ae rfl)) ?_
 refine Y.call (aD rfl) rfl (by decide) rfl (sL rfl (.t .g4) hfn hbody hname (bT (.t .z))) .n (fun w1 S1 hs tr=>hf w1 S1 (fun b hb=>tr.wide b hb) x4) ?_
 rintro _ _ ⟨rfl,rfl⟩
 refine Y.m .n ?_
 refine Y.nt ?_
 refine Y.cond (.t .z) (fun b6=> ?_) (fun b6=> ?_)
 refine Y.seq (Y.region (Y.mv rfl .g6 (Y.as rfl .z (Y.nt (Y.ret (Y.y (Y.r ?_)))))))
 refine Y.r (Y.y (Y.r ?_))
 refine Y.i (aY rfl .z) .n ?_
 exact⟨by rw [pL (by assumption) (by assumption) hallk],rfl⟩
 refine Y.skip (Y.ac (Y.g (Y.region ?_)))
 refine Y.ql rfl (bQ (c:=((k+1:Nat):Int)) rfl (.t .g9) .c (wr (by omega) (by omega) (by omega))) ?_
 refine Y.er .g10 (Y.mv rfl .z (Y.nil ?_))
 refine Y.ae (k+1) ⟨by omega,eM (q:=fun _ x=>p x=false) hallk af b6⟩ (by first | omega |(dsimp only;omega)) (.c .z (.c .g11 (.c .g12 (.c .g13 .n)))) (fun _ h=>h)
 refine Y.exit (Y.ab (Y.ab (Y.ai (Y.g (Y.seq (Y.region (Y.ql rfl (aA rfl .c) (Y.nil ?_))))))))
 refine Y.g (Y.ret ?_)
 refine Y.i (aY rfl .z) .n ?_
 exact⟨by rw [pN (fun j x hx=>hallk j x (by have:=(List.getElem?_eq_some_iff.1 hx).1;omega) hx)],rfl⟩

theorem sY {w0:World}{S0:Bs}{xs:(List Int)}{v0:Value} (h0:bY.ro w0 (FF w0 S0) xs [v0]) {f:FuncId}{us:Array Value}{fn:Func} (hfn:Tryz.prog.funcs[f]? =some fn) (hbody:fn.body.isSome=true) (hname:(fn.name == "runtime.NumGoroutine")=false) {p:Int→Bool} (hf:∀w1 S1,(∀b,FF w0 S0 b→FF w1 S1 b∧w1.heap[b]? =w0.heap[b]?)→∀x:Int,Calls Tryz.prog f (#[.int .i64 x]++us) w1 (aJ w1 S1 (fun r l=>r= .bool (p x)∧l= []))):
    Calls Tryz.prog 108 #[v0,.func (.func f) #[] us] w0 (aJ w0 S0 (fun r l=>r= .bool (xs.any p)∧l= [])):=by
 obtain⟨A0,c0,rfl,hl0,hm0,hb0,he0⟩:=aH h0
 refine Y.enter (N:=9) Tryz.func108 rfl rfl (by simp) [(0,.slice A0 xs.length c0),(1,.func (.func f) #[] us)] (by simp) (l0:= []) trivial ?_
 refine Y.seq (Y.region (Y.ql rfl (aA rfl .c) (Y.nt (Y.seq (Y.region (Y.mv rfl .g1 (Y.mv rfl .g3 ?_)))))))
 refine Y.cl rfl rfl Tryz.func144 rfl rfl (aX (.t .g1) (.t .z)) .n (fun _ _ hs tr=>aMq (tr.ctx h0) hfn hbody hname (fun w2 S2 h2 x=>hf w2 S2 (fun b hb=>⟨(h2 b (tr.wide b hb).1).1,(h2 b (tr.wide b hb).1).2.trans (tr.wide b hb).2⟩) x)) ?_
 rintro _ _ ⟨rfl,rfl⟩
 refine Y.m .n ?_
 refine Y.ql rfl (lU rfl (.t .z) .c) (Y.er .g4 (Y.as rfl .z (Y.nt (Y.ret ?_))))
 refine Y.i (aY rfl .z) .n ?_
 exact⟨by rw [xP],rfl⟩

theorem aMn {w0:World}{S0:Bs}{xs:(List Int)}{v0:Value} (h0:bY.ro w0 (FF w0 S0) xs [v0]) (v:Int):
    Calls Tryz.prog 166 #[v0,.int .i64 v] w0 (aJ w0 S0 (fun r l=>r= .int .i64 (eS (fun x=>decide (x=v)) xs)∧l= [])):=by
 obtain⟨A0,c0,rfl,ai,aj,ak,ag⟩:=aH h0
 refine Y.enter (N:=19) Tryz.func166 rfl rfl (by simp) [(0,.slice A0 xs.length c0),(1,.int .i64 v)] (by simp) (l0:= []) trivial ?_
 refine Y.seq (Y.region (Y.ql rfl (aA rfl .c) (Y.nt (Y.seq (Y.seq (Y.region (Y.mv rfl .g1 ?_)))))))
 refine Y.ql rfl (bM rfl eQ (.t .z)) (Y.ql rfl (aV rfl .c) (Y.nt (Y.block ?_)))
 refine Y.aj (γ:=Nat) (fun k=> [(8,.int .i64 (k:Int)),(7,.int .i64 (xs.length:Int)),(0,.slice A0 xs.length c0),(1,.int .i64 v)]) (fun k=> []) (fun k=>k≤xs.length∧∀j x,j<k→xs[j]? =some x→(fun x=>decide (x=v)) x=false) (fun k=>xs.length - k) 0 ⟨Nat.zero_le _,eV (q:=fun _ x=>(fun x=>decide (x=v)) x=false)⟩ (.c .z (.c .g1 (.c .g4 (.c .g5 .n)))) (fun _ h=>h) ?_
 rintro k ⟨hk,hallk⟩
 refine Y.seq (Y.region (Y.ql rfl (dJ rfl (.t .z) (.t .g1)) (Y.nt (Y.seq ?_))))
 refine Y.u (.t .z) (fun b2=> ?_) (fun b2=> ?_)
 refine Y.skip (Y.g (Y.seq (Y.block (Y.seq (Y.region (Y.mv rfl .g1 (Y.as rfl .z (Y.nil ?_))))))))
 refine Y.g (Y.seq (Y.region (Y.mv rfl .g6 (Y.mv rfl .g6 (Y.mv rfl .g2 ?_)))))
 obtain⟨al,aa,ab⟩:=ag (by omega)
 subst aa
 obtain⟨x4,ac⟩:=aI (xs:=xs) (j:=k) (by omega)
 obtain⟨ah,ad,ae,af⟩:=ab.elem ac
 obtain⟨rfl,am⟩:=ad
 refine Y.ql rfl (aC (j:=k) rfl eQ jQ (.t .g1) (.t .z) rfl (by omega)) ?_
 refine Y.ql rfl (aL rfl cF (.t .z) (WS.j ae af rfl)) (Y.ql rfl (bZ rfl (.t .g4) (.t .z)) (Y.nt ?_))
 refine Y.u (.t .z) (fun b6=> ?_) (fun b6=> ?_)
 refine Y.seq (Y.region (Y.mv rfl .g6 (Y.as rfl .z (Y.nt (Y.ret (Y.y (Y.r ?_)))))))
 refine Y.r (Y.y (Y.r ?_))
 refine Y.i (aY rfl .z) .n ?_
 exact⟨by rw [pL ac (decide_eq_true (by omega)) hallk],rfl⟩
 refine Y.skip (Y.ac (Y.g (Y.region ?_)))
 refine Y.ql rfl (bQ (c:=((k+1:Nat):Int)) rfl (.t .g9) .c (wr (by omega) (by omega) (by omega))) ?_
 refine Y.er .g10 (Y.mv rfl .z (Y.nil ?_))
 refine Y.ae (k+1) ⟨by omega,eM (q:=fun _ x=>(fun x=>decide (x=v)) x=false) hallk ac (decide_eq_false (by omega))⟩ (by first | omega |(dsimp only;omega)) (.c .z (.c .g11 (.c .g12 (.c .g13 .n)))) (fun _ h=>h)
 refine Y.exit (Y.ab (Y.ab (Y.ai (Y.g (Y.seq (Y.region (Y.ql rfl (aA rfl .c) (Y.nil ?_))))))))
 refine Y.g (Y.ret ?_)
 refine Y.i (aY rfl .z) .n ?_
 exact⟨by rw [pN (fun j x hx=>hallk j x (by have:=(List.getElem?_eq_some_iff.1 hx).1;omega) hx)],rfl⟩

theorem aLq {w0:World}{S0:Bs}{xs:(List Int)}{v0:Value} (h0:bY.ro w0 (FF w0 S0) xs [v0]) (v:Int):
    Calls Tryz.prog 140 #[v0,.int .i64 v] w0 (aJ w0 S0 (fun r l=>r= .bool (decide (v∈xs))∧l= [])):=by
 obtain⟨A0,c0,rfl,hl0,hm0,hb0,he0⟩:=aH h0
 refine Y.enter (N:=9) Tryz.func140 rfl rfl (by simp) [(0,.slice A0 xs.length c0),(1,.int .i64 v)] (by simp) (l0:= []) trivial ?_
 refine Y.seq (Y.region (Y.ql rfl (aA rfl .c) (Y.nt (Y.seq (Y.region (Y.mv rfl .g1 (Y.mv rfl .g3 ?_)))))))
 refine Y.cl rfl rfl Tryz.func166 rfl rfl (aX (.t .g1) (.t .z)) .n (fun _ _ hs tr=>aMn (tr.ctx h0) _) ?_
 rintro _ _ ⟨rfl,rfl⟩
 refine Y.m .n ?_
 refine Y.ql rfl (lU rfl (.t .z) .c) (Y.er .g4 (Y.as rfl .z (Y.nt (Y.ret ?_))))
 refine Y.i (aY rfl .z) .n ?_
 exact⟨by rw [xP,aJl],rfl⟩

theorem aK3 {w0:World}{S0:Bs} (n:Int):
    Calls Tryz.prog 71 #[.int .i64 n] w0 (aJ w0 S0 (fun r l=>r= .bool (decide (0≤n∧n≤32))∧l= [])):=by
 refine Y.enter (N:=5) Tryz.func71 rfl rfl (by simp) [(0,.int .i64 n)] (by simp) (l0:= []) trivial ?_
 refine Y.seq (Y.region (Y.ql rfl (aA rfl .c) (Y.nt (Y.seq (Y.region (Y.mv rfl .g1 ?_))))))
 refine Y.cl rfl rfl Tryz.func46 rfl rfl (dX (.t .z) .c .c) .n (fun _ _ hs tr=>xL _ _ _) ?_
 rintro _ _ ⟨rfl,rfl⟩
 refine Y.m .n ?_
 refine Y.er .g2 (Y.as rfl .z (Y.nt (Y.ret ?_)))
 refine Y.i (aY rfl .z) .n ?_
 exact⟨rfl,rfl⟩

theorem aD9 {w0:World}{S0:Bs} (n:Int) (hn0:0≤n) (hn1:n≤1073741824):
    Calls Tryz.prog 117 #[.int .i64 n] w0 (aJ w0 S0 (fun r l=>r= .int .i64 ((n+7) / 8)∧l= [])):=by
 refine Y.enter (N:=7) Tryz.func117 rfl rfl (by simp) [(0,.int .i64 n)] (by simp) (l0:= []) trivial ?_
 refine Y.seq (Y.region (Y.ql rfl (aA rfl .c) (Y.nt (Y.seq (Y.region (Y.mv rfl .g1 ?_))))))
 refine Y.ql rfl (bQ (c:=n+8) rfl (.t .z) .c (wr (by omega) (by omega) (by omega))) ?_
 refine Y.ql rfl (jL (c:=(n+8) - 1) rfl (.t .z) .c (wr (by omega) (by omega) (by omega))) ?_
 refine Y.ql rfl (aHi (c:=((n+8) - 1) / 8) rfl (.t .z) .c (by omega) (aDf (by omega) (by omega) (by omega))) ?_
 refine Y.er .g4 (Y.as rfl .z (Y.nt (Y.ret ?_)))
 refine Y.i (aY rfl .z) .n ?_
 exact⟨congrArg (Value.int .i64) (by omega),rfl⟩

theorem sS {w0:World}{S0:Bs} (n:Int) (hn0:0≤n) (hn1:n≤1073741824):
    Calls Tryz.prog 119 #[.int .i64 n] w0 (aJ w0 S0 (fun r l=>r= .int .i64 ((n+7) / 8)∧l= [])):=by
 refine Y.enter (N:=7) Tryz.func119 rfl rfl (by simp) [(0,.int .i64 n)] (by simp) (l0:= []) trivial ?_
 refine Y.seq (Y.region (Y.ql rfl (aA rfl .c) (Y.nt (Y.seq (Y.region (Y.mv rfl .g1 ?_))))))
 refine Y.ql rfl (bQ (c:=n+8) rfl (.t .z) .c (wr (by omega) (by omega) (by omega))) ?_
 refine Y.ql rfl (jL (c:=(n+8) - 1) rfl (.t .z) .c (wr (by omega) (by omega) (by omega))) ?_
 refine Y.ql rfl (aHi (c:=((n+8) - 1) / 8) rfl (.t .z) .c (by omega) (aDf (by omega) (by omega) (by omega))) ?_
 refine Y.er .g4 (Y.as rfl .z (Y.nt (Y.ret ?_)))
 refine Y.i (aY rfl .z) .n ?_
 exact⟨congrArg (Value.int .i64) (by omega),rfl⟩

theorem sR {w0:World}{S0:Bs} (n:Int):
    Calls Tryz.prog 170 #[.int .i64 n] w0 (aJ w0 S0 (fun r l=>r= .bool (!decide (0≤n∧n≤19))∧l= [])):=by
 refine Y.enter (N:=6) Tryz.func170 rfl rfl (by simp) [(0,.int .i64 n)] (by simp) (l0:= []) trivial ?_
 refine Y.seq (Y.region (Y.ql rfl (aA rfl .c) (Y.nt (Y.seq (Y.region (Y.mv rfl .g1 ?_))))))
 refine Y.cl rfl rfl Tryz.func84 rfl rfl (dX (.t .z) .c .c) .n (fun _ _ hs tr=>yY _ _ _) ?_
 rintro _ _ ⟨rfl,rfl⟩
 refine Y.m .n ?_
 refine Y.ql rfl (fN rfl (.t .z)) (Y.er .g3 (Y.as rfl .z (Y.nt (Y.ret ?_))))
 refine Y.i (aY rfl .z) .n ?_
 exact⟨rfl,rfl⟩

theorem sW {w0:World}{S0:Bs}{xs:(List Int)}{v0:Value} (h0:bY.ro w0 (FF w0 S0) xs [v0]):
    Calls Tryz.prog 149 #[v0] w0 (aJ w0 S0 (fun r l=>r= .int .i64 xs.length∧l= [])):=by
 obtain⟨A0,c0,rfl,hl0,hm0,hb0,he0⟩:=aH h0
 refine Y.enter (N:=5) Tryz.func149 rfl rfl (by simp) [(0,.slice A0 xs.length c0)] (by simp) (l0:= []) trivial ?_
 refine Y.seq (Y.region (Y.ql rfl (aA rfl .c) (Y.nt (Y.seq (Y.region (Y.mv rfl .g1 (Y.ql rfl (bM rfl eQ (.t .z)) ?_)))))))
 refine Y.er .g2 (Y.as rfl .z (Y.nt (Y.ret ?_)))
 refine Y.i (aY rfl .z) .n ?_
 exact⟨rfl,rfl⟩

theorem aJn {w0:World}{S0:Bs}{xs:(List aF)}{v0:Value} (h0:aP.ro w0 (FF w0 S0) xs [v0]):
    Calls Tryz.prog 85 #[v0] w0 (aJ w0 S0 (fun r l=>r= .int .i64 xs.length∧l= [])):=by
 obtain⟨A0,c0,rfl,hl0,hm0,hb0,he0⟩:=aH h0
 refine Y.enter (N:=5) Tryz.func85 rfl rfl (by simp) [(0,.slice A0 xs.length c0)] (by simp) (l0:= []) trivial ?_
 refine Y.seq (Y.region (Y.ql rfl (aA rfl .c) (Y.nt (Y.seq (Y.region (Y.mv rfl .g1 (Y.ql rfl (bM rfl cE (.t .z)) ?_)))))))
 refine Y.er .g2 (Y.as rfl .z (Y.nt (Y.ret ?_)))
 refine Y.i (aY rfl .z) .n ?_
 exact⟨rfl,rfl⟩

theorem aJ8 {w0:World}{S0:Bs} (s:ByteArray) (ab:s.size≤140737488351232):
    Calls Tryz.prog 123 #[.string s] w0 (aJ w0 S0 (fun r l=>r= .int .i64 (cD s)∧l= [])):=by
 refine Y.enter (N:=25) Tryz.func123 rfl rfl (by simp) [(0,.string s)] (by simp) (l0:= []) trivial ?_
 refine Y.seq (Y.region (Y.ql rfl (aA rfl .c) (Y.nt (Y.seq (Y.seq (Y.region (Y.mv rfl .g1 ?_)))))))
 refine Y.ql rfl (rM rfl (.t .z) .c) (Y.nt ?_)
 refine Y.u (.t .z) (fun b1=> ?_) (fun b1=> ?_)
 refine Y.seq (Y.region (Y.er .g2 (Y.ql rfl (aA rfl .c) (Y.nt (Y.ret (Y.r ?_))))))
 refine Y.i (aY rfl .z) .n ?_
 exact⟨by first |(rw [iJ (by assumption)];done) |(rw [iF (fun j b hj hb=>hallk j b (by omega) hb) (by assumption) (by assumption)];done) |(rw [iK (fun j b hj hb=>hallk j b (by omega) hb) (by assumption) (by assumption)];done),rfl⟩
 refine Y.skip (Y.g (Y.seq (Y.seq (Y.region (Y.mv rfl .g3 (Y.ql rfl (nO rfl u_9 (.t .z)) (Y.ql rfl (aV rfl .c) (Y.nil ?_))))))))
 refine Y.g (Y.block ?_)
 refine Y.aj (γ:=Nat) (fun k=> [(8,.int .i64 (k:Int)),(7,.int .i64 (s.size:Int)),(0,.string s)]) (fun k=> []) (fun k=>k≤s.size∧∀j b,j<k→s.data.toList[j]? =some b→wE b) (fun k=>s.size - k) 0 ⟨Nat.zero_le _,eV (q:=fun _ b=>wE b)⟩ (.c .z (.c .g1 (.c .g6 .n))) (fun _ h=>h) ?_
 rintro k ⟨hk,hallk⟩
 refine Y.seq (Y.region (Y.ql rfl (dJ rfl (.t .z) (.t .g1)) (Y.nt (Y.seq ?_))))
 refine Y.u (.t .z) (fun b2=> ?_) (fun b2=> ?_)
 refine Y.skip (Y.g (Y.seq (Y.block (Y.seq (Y.region (Y.mv rfl .g1 (Y.as rfl .z (Y.nil ?_))))))))
 refine Y.g (Y.seq (Y.region (Y.mv rfl .g5 (Y.mv rfl .g1 ?_))))
 obtain⟨b3,aa⟩:=aI (xs:=s.data.toList) (j:=k) (by have:=mV s;omega)
 refine Y.ql rfl (mS rfl u_9 (.t .g1) (.t .z) rfl aa) (Y.ql rfl (dJ rfl (.t .z) .c) (Y.mv rfl .z ?_))
 refine Y.al .z (fun g4=> ?_) (fun g4=> ?_)
 refine Y.j rfl rfl .z rfl rfl (by decide) rfl ?_
 refine Y.j rfl rfl .g1 rfl rfl (by decide) rfl ?_
 refine Y.j rfl rfl .g2 rfl rfl (by decide) rfl ?_
 refine Y.j rfl rfl .g3 rfl rfl (by decide) rfl ?_
 refine Y.ql rfl (bO rfl (.t .g4) .c) (Y.nt ?_)
 refine Y.ao (.t .z) ?_
 refine Y.seq (Y.region (Y.ql rfl (aA rfl .c) (Y.nt (Y.ret (Y.y (Y.r (Y.r ?_)))))))
 refine Y.y (Y.r ?_)
 refine Y.i (aY rfl .z) .n ?_
 exact⟨by first |(rw [iJ (by assumption)];done) |(rw [oR aa (fun h=>by have:=h.1;have:=h.2;omega)];done) |(rw [iF (fun j b hj hb=>hallk j b (by omega) hb) (by assumption) (by assumption)];done) |(rw [iK (fun j b hj hb=>hallk j b (by omega) hb) (by assumption) (by assumption)];done),rfl⟩
 refine Y.qg rfl rfl .z rfl rfl rfl (aV rfl (.t .g10)) ?_
 refine Y.qg rfl rfl .g1 rfl rfl rfl (aV rfl (.t .g6)) ?_
 refine Y.qg rfl rfl .g2 rfl rfl rfl (mS rfl u_9 (.t .g1) (.t .z) rfl aa) ?_
 refine Y.qg rfl rfl .g3 rfl rfl rfl (gO rfl (.t .z) .c) ?_
 refine Y.ql rfl (bW rfl (.t .g4) (.t .z)) (Y.nt ?_)
 refine Y.u (.t .z) (fun b5=> ?_) (fun b5=> ?_)
 refine Y.seq (Y.region (Y.ql rfl (aA rfl .c) (Y.nt (Y.ret (Y.y (Y.r (Y.r ?_)))))))
 refine Y.y (Y.r ?_)
 refine Y.i (aY rfl .z) .n ?_
 exact⟨by first |(rw [iJ (by assumption)];done) |(rw [oR aa (fun h=>by have:=h.1;have:=h.2;omega)];done) |(rw [iF (fun j b hj hb=>hallk j b (by omega) hb) (by assumption) (by assumption)];done) |(rw [iK (fun j b hj hb=>hallk j b (by omega) hb) (by assumption) (by assumption)];done),rfl⟩
 refine Y.skip (Y.ac (Y.g (Y.region ?_)))
 refine Y.ql rfl (bQ (c:=((k+1:Nat):Int)) rfl (.t .g13) .c (wr (by omega) (by omega) (by omega))) ?_
 refine Y.er .g14 (Y.mv rfl .z (Y.nil ?_))
 refine Y.ae (k+1) ⟨by omega,eM (q:=fun _ b=>wE b) hallk aa ⟨by omega,by omega⟩⟩ (by first | omega |(dsimp only;omega)) (.c .z (.c .g15 (.c .g16 .n))) (fun _ h=>h)
 refine Y.exit (Y.ab (Y.ab (Y.ai (Y.g (Y.seq (Y.seq (Y.region (Y.mv rfl .g3 ?_))))))))
 refine Y.ql rfl (nO rfl u_9 (.t .z)) (Y.ql rfl (gO rfl (.t .z) .c) (Y.nt ?_))
 refine Y.u (.t .z) (fun b6=> ?_) (fun b6=> ?_)
 refine Y.seq (Y.region (Y.ql rfl (aA rfl .c) (Y.nt (Y.ret (Y.r ?_)))))
 refine Y.i (aY rfl .z) .n ?_
 exact⟨by first |(rw [iJ (by assumption)];done) |(rw [iF (fun j b hj hb=>hallk j b (by omega) hb) (by assumption) (by assumption)];done) |(rw [iK (fun j b hj hb=>hallk j b (by omega) hb) (by assumption) (by assumption)];done),rfl⟩
 refine Y.skip (Y.g (Y.seq (Y.region (Y.ql rfl (aA rfl .c) (Y.nt (Y.ret ?_))))))
 refine Y.i (aY rfl .z) .n ?_
 exact⟨by first |(rw [iJ (by assumption)];done) |(rw [iF (fun j b hj hb=>hallk j b (by omega) hb) (by assumption) (by assumption)];done) |(rw [iK (fun j b hj hb=>hallk j b (by omega) hb) (by assumption) (by assumption)];done),rfl⟩

theorem aGh {w0:World}{S0:Bs} (s:ByteArray) (ab:s.size≤140737488351232):
    Calls Tryz.prog 126 #[.string s] w0 (aJ w0 S0 (fun r l=>r= .int .i64 (cD s)∧l= [])):=by
 refine Y.enter (N:=25) Tryz.func126 rfl rfl (by simp) [(0,.string s)] (by simp) (l0:= []) trivial ?_
 refine Y.seq (Y.region (Y.ql rfl (aA rfl .c) (Y.nt (Y.seq (Y.seq (Y.region (Y.ql rfl (aA rfl .c) ?_)))))))
 refine Y.nt (Y.block ?_)
 refine Y.aj (γ:=Nat) (fun k=> [(3,.int .i64 (k:Int)),(0,.string s)]) (fun k=> []) (fun k=>k≤s.size∧∀j b,j<k→s.data.toList[j]? =some b→wE b) (fun k=>s.size - k) 0 ⟨Nat.zero_le _,eV (q:=fun _ b=>wE b)⟩ (.c .z (.c .g2 .n)) (fun _ h=>h) ?_
 rintro k ⟨hk,hallk⟩
 refine Y.seq (Y.seq (Y.region (Y.mv rfl .z (Y.mv rfl .g2 (Y.ql rfl (nO rfl u_9 (.t .z)) (Y.ql rfl (dJ rfl (.t .g2) (.t .z)) (Y.nt ?_)))))))
 refine Y.u (.t .z) (fun b1=> ?_) (fun b1=> ?_)
 refine Y.skip (Y.g (Y.seq (Y.block (Y.seq (Y.region (Y.mv rfl .g5 (Y.mv rfl .g5 ?_)))))))
 obtain⟨b2,aa⟩:=aI (xs:=s.data.toList) (j:=k) (by have:=mV s;omega)
 refine Y.ql rfl (mS rfl u_9 (.t .g1) (.t .z) rfl aa) (Y.ql rfl (dJ rfl (.t .z) .c) (Y.mv rfl .z ?_))
 refine Y.al .z (fun g3=> ?_) (fun g3=> ?_)
 refine Y.j rfl rfl .z rfl rfl (by decide) rfl ?_
 refine Y.j rfl rfl .g1 rfl rfl (by decide) rfl ?_
 refine Y.j rfl rfl .g2 rfl rfl (by decide) rfl ?_
 refine Y.j rfl rfl .g3 rfl rfl (by decide) rfl ?_
 refine Y.ql rfl (bO rfl (.t .g4) .c) (Y.nt ?_)
 refine Y.ao (.t .z) ?_
 refine Y.seq (Y.region (Y.ql rfl (aA rfl .c) (Y.nt (Y.ret (Y.y (Y.r (Y.r ?_)))))))
 refine Y.y (Y.r ?_)
 refine Y.i (aY rfl .z) .n ?_
 exact⟨by first |(rw [iJ (by assumption)];done) |(rw [oR aa (fun h=>by have:=h.1;have:=h.2;omega)];done) |(rw [iF (fun j b hj hb=>hallk j b (by omega) hb) (by assumption) (by assumption)];done) |(rw [iK (fun j b hj hb=>hallk j b (by omega) hb) (by assumption) (by assumption)];done),rfl⟩
 refine Y.qg rfl rfl .z rfl rfl rfl (aV rfl (.t .g10)) ?_
 refine Y.qg rfl rfl .g1 rfl rfl rfl (aV rfl (.t .g10)) ?_
 refine Y.qg rfl rfl .g2 rfl rfl rfl (mS rfl u_9 (.t .g1) (.t .z) rfl aa) ?_
 refine Y.qg rfl rfl .g3 rfl rfl rfl (gO rfl (.t .z) .c) ?_
 refine Y.ql rfl (bW rfl (.t .g4) (.t .z)) (Y.nt ?_)
 refine Y.u (.t .z) (fun b4=> ?_) (fun b4=> ?_)
 refine Y.seq (Y.region (Y.ql rfl (aA rfl .c) (Y.nt (Y.ret (Y.y (Y.r (Y.r ?_)))))))
 refine Y.y (Y.r ?_)
 refine Y.i (aY rfl .z) .n ?_
 exact⟨by first |(rw [iJ (by assumption)];done) |(rw [oR aa (fun h=>by have:=h.1;have:=h.2;omega)];done) |(rw [iF (fun j b hj hb=>hallk j b (by omega) hb) (by assumption) (by assumption)];done) |(rw [iK (fun j b hj hb=>hallk j b (by omega) hb) (by assumption) (by assumption)];done),rfl⟩
 refine Y.skip (Y.ac (Y.g (Y.region (Y.mv rfl .g14 ?_))))
 refine Y.ql rfl (bQ (c:=((k+1:Nat):Int)) rfl (.t .z) .c (wr (by omega) (by omega) (by omega))) ?_
 refine Y.er .g16 (Y.as rfl .z (Y.nil ?_))
 refine Y.ae (k+1) ⟨by omega,eM (q:=fun _ b=>wE b) hallk aa ⟨by omega,by omega⟩⟩ (by first | omega |(dsimp only;omega)) (.c .z (.c (.s16 .g1) .n)) (fun _ h=>h)
 refine Y.exit (Y.ab (Y.ab (Y.ai (Y.g (Y.seq (Y.seq (Y.region (Y.mv rfl .g5 ?_))))))))
 refine Y.ql rfl (rM rfl (.t .z) .c) (Y.nt ?_)
 refine Y.u (.t .z) (fun b5=> ?_) (fun b5=> ?_)
 refine Y.seq (Y.region (Y.ql rfl (aA rfl .c) (Y.nt (Y.ret (Y.r ?_)))))
 refine Y.i (aY rfl .z) .n ?_
 exact⟨by first |(rw [iJ (by assumption)];done) |(rw [iF (fun j b hj hb=>hallk j b (by omega) hb) (by assumption) (by assumption)];done) |(rw [iK (fun j b hj hb=>hallk j b (by omega) hb) (by assumption) (by assumption)];done),rfl⟩
 refine Y.skip (Y.g (Y.seq (Y.seq (Y.region (Y.mv rfl .g7 (Y.ql rfl (nO rfl u_9 (.t .z)) (Y.ql rfl (gO rfl (.t .z) .c) (Y.nil ?_))))))))
 refine Y.g ?_
 refine Y.u (.t .z) (fun b6=> ?_) (fun b6=> ?_)
 refine Y.seq (Y.region (Y.ql rfl (aA rfl .c) (Y.nt (Y.ret (Y.r ?_)))))
 refine Y.i (aY rfl .z) .n ?_
 exact⟨by first |(rw [iJ (by assumption)];done) |(rw [iF (fun j b hj hb=>hallk j b (by omega) hb) (by assumption) (by assumption)];done) |(rw [iK (fun j b hj hb=>hallk j b (by omega) hb) (by assumption) (by assumption)];done),rfl⟩
 refine Y.skip (Y.g (Y.seq (Y.region (Y.ql rfl (aA rfl .c) (Y.nt (Y.ret ?_))))))
 refine Y.i (aY rfl .z) .n ?_
 exact⟨by first |(rw [iJ (by assumption)];done) |(rw [iF (fun j b hj hb=>hallk j b (by omega) hb) (by assumption) (by assumption)];done) |(rw [iK (fun j b hj hb=>hallk j b (by omega) hb) (by assumption) (by assumption)];done),rfl⟩

end Go.Proofs.YtmejbfmhaoilmaaGreat

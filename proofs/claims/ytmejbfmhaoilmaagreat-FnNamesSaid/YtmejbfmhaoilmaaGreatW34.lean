/- What is proved: contracts of functions, one a function. No condition. -/
import Derived.Test.YtmejbfmhaoilmaaGreatBase1
import Derived.Test.YtmejbfmhaoilmaaGreatW33
namespace Go.Proofs.YtmejbfmhaoilmaaGreat
open Go Go.RowKit
set_option linter.unusedVariables false
set_option linter.unusedSimpArgs false
set_option maxHeartbeats 1000000
set_option maxRecDepth 20000
theorem aM7 {w0:World}{S0:Bs}{e:aQ}{cs0:List Value} (h0:gH.ro w0 (FF w0 S0) e cs0) {s:ByteArray}{ad1:Addr} (h1:gP uM w0 (FF w0 S0) ad1 s):
    Calls Tryz.prog 152 #[.agg cs0.toArray,.pointer (some ad1)] w0 (aJ w0 S0 (fun r l=>r= .bool (cA s e)∧l= [])):=by
 obtain⟨rfl,s0_0⟩:=eR h0
 obtain⟨ec1,hF1,⟨rfl,hs1⟩,hc1⟩:=h1
 refine Y.enter (N:=8) Tryz.func152 rfl rfl (by simp) [(0,.agg #[.string e.name,.int .i64 e.ino]),(1,.pointer (some ad1))] (by simp) (l0:= []) trivial ?_
 refine Y.seq (Y.region ?_)
 refine Y.el rfl (fT (cs:= [.string e.name,.int .i64 e.ino]) (n:=2) rfl (.t .z) rfl rfl) ?_
 rintro _ _ ⟨g1,rfl,rfl⟩
 refine Y.ql rfl (aA rfl .c) (Y.nt (Y.seq (Y.region (Y.fa rfl .g1 jP (Y.ld rfl iR .z .z (Y.ql rfl (aL rfl iR (.t .g5) (WS.j hF1 hc1 rfl)) (Y.ql rfl (rM rfl (.t .g1) (.t .z)) ?_)))))))
 refine Y.er .g4 (Y.as rfl .z (Y.nt (Y.ret ?_)))
 refine Y.i (aY rfl .z) .n ?_
 exact⟨rfl,rfl⟩

theorem aNi {w0:World}{S0:Bs}{xs:(List aQ)}{v0:Value} (h0:cP.ro w0 (FF w0 S0) xs [v0]) {f:FuncId}{us:Array Value}{fn:Func} (hfn:Tryz.prog.funcs[f]? =some fn) (hbody:fn.body.isSome=true) (hname:(fn.name == "runtime.NumGoroutine")=false) {p:aQ→Bool} (hf:∀w1 S1,(∀b,FF w0 S0 b→FF w1 S1 b∧w1.heap[b]? =w0.heap[b]?)→∀{x:aQ}{cs:List Value},gH.ro w1 (FF w1 S1) x cs→Calls Tryz.prog f (#[.agg cs.toArray]++us) w1 (aJ w1 S1 (fun r l=>r= .bool (p x)∧l= []))):
    Calls Tryz.prog 169 #[v0,.func (.func f) #[] us] w0 (aJ w0 S0 (fun r l=>r= .int .i64 (eS p xs)∧l= [])):=by
 obtain⟨A0,c0,rfl,aj,ak,al,ah⟩:=aH h0
 refine Y.enter (N:=19) Tryz.func169 rfl rfl (by simp) [(0,.slice A0 xs.length c0),(1,.func (.func f) #[] us)] (by simp) (l0:= []) trivial ?_
 refine Y.seq (Y.region (Y.ql rfl (aA rfl .c) (Y.nt (Y.seq (Y.seq (Y.region (Y.mv rfl .g1 ?_)))))))
 refine Y.ql rfl (bM rfl cZ (.t .z)) (Y.ql rfl (aV rfl .c) (Y.nt (Y.block ?_)))
 refine Y.aj (γ:=Nat) (fun k=> [(8,.int .i64 (k:Int)),(7,.int .i64 (xs.length:Int)),(0,.slice A0 xs.length c0),(1,.func (.func f) #[] us)]) (fun k=> []) (fun k=>k≤xs.length∧∀j x,j<k→xs[j]? =some x→p x=false) (fun k=>xs.length - k) 0 ⟨Nat.zero_le _,eV (q:=fun _ x=>p x=false)⟩ (.c .z (.c .g1 (.c .g4 (.c .g5 .n)))) (fun _ h=>h) ?_
 rintro k ⟨hk,hallk⟩
 refine Y.seq (Y.region (Y.ql rfl (dJ rfl (.t .z) (.t .g1)) (Y.nt (Y.seq ?_))))
 refine Y.u (.t .z) (fun b2=> ?_) (fun b2=> ?_)
 refine Y.skip (Y.g (Y.seq (Y.block (Y.seq (Y.region (Y.mv rfl .g1 (Y.as rfl .z (Y.nil ?_))))))))
 refine Y.g (Y.seq (Y.region (Y.mv rfl .g6 (Y.mv rfl .g6 (Y.mv rfl .g2 ?_)))))
 obtain⟨am,aa,ab⟩:=ah (by omega)
 subst aa
 obtain⟨x4,af⟩:=aI (xs:=xs) (j:=k) (by omega)
 obtain⟨ai,ac,ad,ae⟩:=ab.elem af
 obtain⟨rfl,ag⟩:=eR ac
 refine Y.ql rfl (aC (j:=k) rfl cZ dV (.t .g1) (.t .z) rfl (by omega)) ?_
 refine Y.ql rfl (qE rfl pU (.t .z) ad ae dV) ?_
 refine Y.call (aD rfl) rfl (by decide) rfl (sL rfl (.t .g4) hfn hbody hname (bT (.t .z))) .n (fun w1 S1 hs tr=>hf w1 S1 (fun b hb=>tr.wide b hb) (tr.ctx ac)) ?_
 rintro _ _ ⟨rfl,rfl⟩
 refine Y.m .n ?_
 refine Y.nt ?_
 refine Y.cond (.t .z) (fun b6=> ?_) (fun b6=> ?_)
 refine Y.seq (Y.region (Y.mv rfl .g6 (Y.as rfl .z (Y.nt (Y.ret (Y.y (Y.r ?_)))))))
 refine Y.r (Y.y (Y.r ?_))
 refine Y.i (aY rfl .z) .n ?_
 exact⟨by rw [pL (by assumption) (by assumption) hallk],rfl⟩
 refine Y.skip (Y.ac (Y.g (Y.region ?_)))
 refine Y.ql rfl (bQ (c:=((k+1:Nat):Int)) rfl (.t .g9) .c (wr (by omega) (by omega) (by omega))) ?_
 refine Y.er .g10 (Y.mv rfl .z (Y.nil ?_))
 refine Y.ae (k+1) ⟨by omega,eM (q:=fun _ x=>p x=false) hallk af b6⟩ (by first | omega |(dsimp only;omega)) (.c .z (.c .g11 (.c .g12 (.c .g13 .n)))) (fun _ h=>h)
 refine Y.exit (Y.ab (Y.ab (Y.ai (Y.g (Y.seq (Y.region (Y.ql rfl (aA rfl .c) (Y.nil ?_))))))))
 refine Y.g (Y.ret ?_)
 refine Y.i (aY rfl .z) .n ?_
 exact⟨by rw [pN (fun j x hx=>hallk j x (by have:=(List.getElem?_eq_some_iff.1 hx).1;omega) hx)],rfl⟩

theorem aM5 {w0:World}{S0:Bs}{x:(List aQ)}{v0:Value}{f:FuncId}{us:Array Value}{fn:Func} (hfn:Tryz.prog.funcs[f]? =some fn) (hbody:fn.body.isSome=true) (hname:(fn.name == "runtime.NumGoroutine")=false) {p:aQ→Bool} (hf:∀w1 S1,(∀b,FF w0 S0 b→FF w1 S1 b∧w1.heap[b]? =w0.heap[b]?)→∀{x:aQ}{cs:List Value},gH.ro w1 (FF w1 S1) x cs→Calls Tryz.prog f (#[.agg cs.toArray]++us) w1 (aJ w1 S1 (fun r l=>r= .bool (p x)∧l= []))) (hs:cB [aG cP x [v0]] w0 S0):
    Calls Tryz.prog 151 #[v0,.func (.func f) #[] us] w0 (aJ w0 S0 (fun r l=>l= [aG cP (List.filter (hJ p) x) [r]])):=by
 refine Y.enter (N:=42) Tryz.func151 rfl rfl (by simp) [(0,v0),(1,.func (.func f) #[] us)] (by simp) hs ?_
 refine Y.h (WS.a .z) ?_
 rintro⟨ar,ac,rfl,am,an,ao⟩
 refine Y.seq (Y.region (Y.ql rfl (aA rfl .c) (Y.nt (Y.seq (Y.region (Y.mv rfl .g1 (Y.mv rfl .g3 ?_)))))))
 refine Y.cl rfl rfl Tryz.func169 rfl rfl (aX (.t .g1) (.t .z)) .n (fun _ _ hs tr=>aNi (p:=p) (tr.own .z) hfn hbody hname (fun w2 S2 h2 {x cs} hr=>hf w2 S2 (fun b hb=>⟨(h2 b (tr.wide b hb).1).1,(h2 b (tr.wide b hb).1).2.trans (tr.wide b hb).2⟩) hr)) ?_
 rintro _ _ ⟨rfl,rfl⟩
 refine Y.m .n ?_
 have au:=gN p x
 refine Y.as rfl .z (Y.nt (Y.seq (Y.seq (Y.region (Y.mv rfl .z (Y.ql rfl (bZ rfl (.t .z) .c) (Y.nil ?_)))))))
 refine Y.g ?_
 refine Y.u (.t .z) (fun b3=> ?_) (fun b3=> ?_)
 refine Y.seq (Y.region (Y.mv rfl .g7 (Y.er .g7 (Y.as rfl .z (Y.nt (Y.ret (Y.r ?_)))))))
 refine Y.af (x':=List.filter (hJ p) x) .z (aF3 (by assumption)) ?_
 refine Y.i (aY rfl .z) (.c .z .n) ?_
 rfl
 refine Y.skip (Y.g (Y.seq (Y.seq (Y.region (Y.mv rfl .g2 ?_)))))
 refine Y.ql rfl (bQ (c:=(eS p x)+1) rfl (.t .z) .c (wr (by omega) (by omega) (by omega))) ?_
 refine Y.as rfl .z (Y.nt (Y.block ?_))
 have ap:=aI9 b3
 refine Y.h (WS.i .z (by omega)) ?_
 rintro⟨ad,rfl⟩
 obtain⟨ix,hix,hil,hfi⟩:=kN b3
 refine Y.eq .g5 (congrArg (Value.int .i64) hix) ?_
 refine Y.eq .g1 (congrArg (Value.int .i64) (show(eS p x)+1=((ix+1:Nat):Int) by omega)) ?_
 refine Y.aj (γ:=Nat×Nat×(List aQ)) (fun⟨k,i,L⟩=> [(6,.int .i64 (k:Int)),(5,.int .i64 (i:Int)),(4,.slice none 0 0),(0,.slice (some ad) x.length ac),(1,.func (.func f) #[] us)]) (fun⟨k,i,L⟩=> [aG cP L [.slice (some ad) x.length ac]]) (fun⟨k,i,L⟩=>k≤x.length∧i<k∧aCx p x k i L) (fun⟨k,i,L⟩=>x.length - k) (ix+1,ix,x) ⟨by omega,by omega,aE7 hfi⟩ (.c .z (.c .g1 (.c .g9 (.c .g10 (.c .g11 .n))))) (fun _ h=>h.sel (.c .z .n)) ?_
 rintro⟨k,i,L⟩ ⟨hk,hi,hL⟩
 have hLl:=hL.len
 refine Y.seq (Y.seq (Y.region (Y.mv rfl .z (Y.mv rfl .g4 (Y.ql rfl (bM rfl cZ (.t .z)) (Y.ql rfl (dJ rfl (.t .g2) (.t .z)) (Y.nt ?_)))))))
 refine Y.u (.t .z) (fun b4=> ?_) (fun b4=> ?_)
 refine Y.skip (Y.g (Y.seq (Y.block (Y.seq (Y.region (Y.mv rfl .g7 (Y.mv rfl .g5 ?_)))))))
 refine Y.w (.c .z .n) eC ?_
 rintro aq aa
 obtain⟨y6,af⟩:=aI (xs:=L) (j:=k) (by omega)
 obtain⟨c7,ai⟩:=aI (xs:=aq) (j:=k) (by rw [aa];exact(List.getElem?_eq_some_iff.1 af).1)
 refine Y.an .g1 (cW af ai) ?_
 refine Y.w (.c .z .n) uD ?_
 rintro⟨⟩ ⟨rfl,al⟩
 refine Y.ql rfl (aC (j:=k) rfl cZ dV (.t .g1) (.t .z) rfl (by omega)) ?_
 refine Y.ql rfl (lY (cs:= [.string y6.name,.int .i64 y6.ino]) rfl pU dV (.t .z) (WS.aa .g2 ai)) ?_
 refine Y.el rfl (bL rfl aFx rfl rfl) ?_
 rintro _ _ ⟨g9,rfl,rfl⟩
 refine Y.es (aD rfl) rfl (esW rfl (.t .z) (.t .g1) .z dV rfl rfl) ?_
 refine Y.nt (Y.seq (Y.region (Y.mv rfl .g13 (Y.ql rfl (qW rfl pU (.t .g1) .z dV) ?_))))
 refine Y.call (aD rfl) rfl (by decide) rfl (sL rfl (.t .g1) hfn hbody hname (bT (.t .z))) .n (fun w1 S1 hs tr=>hf w1 S1 (fun b hb=>tr.wide b hb) (nU y6 (by assumption))) ?_
 rintro _ _ ⟨rfl,rfl⟩
 refine Y.m .n ?_
 refine Y.ql rfl (fN rfl (.t .z)) (Y.nt ?_)
 refine Y.cond (.t .z) (fun aj=> ?_) (fun aj=> ?_)
 refine Y.seq (Y.region (Y.mv rfl .g16 (Y.mv rfl .g15 (Y.ql rfl (qW rfl pU (.t .g6) .z dV) ?_))))
 refine Y.v (c:=aG gH y6 [.string y6.name,.int .i64 y6.ino]) .n (fun w S h=>fH y6 h (by assumption)) ?_
 refine Y.v (c:=aG cP L [.slice (some ad) x.length ac]) (.c .g4 (.c .z (.c .g1 (.c .g1 .n)))) (bU (K:=gH) aa af ai) ?_
 refine Y.w (.c .z .n) eC ?_
 rintro ag ab
 obtain⟨av,ae⟩:=aI (xs:=L) (j:=i) (by omega)
 obtain⟨aw,ah⟩:=aI (xs:=ag) (j:=i) (by rw [ab];exact(List.getElem?_eq_some_iff.1 ae).1)
 refine Y.an .g1 (cW ae ah) ?_
 refine Y.w (.c .z .n) uD ?_
 rintro⟨⟩ ⟨rfl,ak⟩
 refine Y.ql rfl (aC (j:=i) rfl cZ dV (.t .g2) (.t .g1) rfl (by omega)) ?_
 refine Y.es (aD rfl) rfl (gY (j:=i) (off:=0) (cs:= [.string y6.name,.int .i64 y6.ino]) rfl dV (.t .z) rfl (.t .g1) rfl (lZ rfl) .g2 ah (Nat.le_of_ble_eq_true rfl)) ?_
 refine Y.af (x':=List.set ag i [.string y6.name,.int .i64 y6.ino]) .z rfl ?_
 refine Y.nt (Y.region (Y.mv rfl (.s16 .g2) ?_))
 refine Y.ql rfl (bQ (c:=((i+1:Nat):Int)) rfl (.t .z) .c (wr (by omega) (by omega) (by omega))) ?_
 refine Y.er (.s16 .g4) (Y.as rfl .z (Y.nil (Y.ac (Y.g (Y.region (Y.mv rfl (.s16 .g4) ?_))))))
 refine Y.ql rfl (bQ (c:=((k+1:Nat):Int)) rfl (.t .z) .c (wr (by omega) (by omega) (by omega))) ?_
 refine Y.er (.s16 .g6) (Y.as rfl .z (Y.nil ?_))
 refine Y.v (c:=aG gH (⟨y6.name,y6.ino⟩:aQ) [.string y6.name,.int .i64 y6.ino]) .n (fun w S h=>fH (⟨y6.name,y6.ino⟩:aQ) h (by assumption)) ?_
 refine Y.v (c:=aG cP (List.set L i (⟨y6.name,y6.ino⟩:aQ)) [.slice (some ad) x.length ac]) (.c .g1 (.c .z (.c .z (.c .z .n)))) (dQ (K:=gH) ab (List.getElem?_eq_some_iff.1 ae).1 rfl) ?_
 refine Y.ae ((k+1),i+1,List.set L i (⟨y6.name,y6.ino⟩:aQ)) ⟨by omega,by omega,aF2 hL af (by simpa using aj) hi⟩ (by first | omega |(dsimp only;omega)) (.c .z (.c .g3 (.c (.s16 .g7) (.c (.s16 .g8) (.c (.s16 .g9) .n))))) (fun _ h=>h.sel (.c .z .n))
 refine Y.skip (Y.ac (Y.g (Y.region (Y.mv rfl .g13 ?_))))
 refine Y.ql rfl (bQ (c:=((k+1:Nat):Int)) rfl (.t .z) .c (wr (by omega) (by omega) (by omega))) ?_
 refine Y.er .g15 (Y.as rfl .z (Y.nil ?_))
 refine Y.v (c:=aG gH y6 [.string y6.name,.int .i64 y6.ino]) .n (fun w S h=>fH y6 h (by assumption)) ?_
 refine Y.v (c:=aG cP L [.slice (some ad) x.length ac]) (.c .g4 (.c .z (.c .g1 (.c .g1 .n)))) (bU (K:=gH) aa af ai) ?_
 refine Y.ae ((k+1),i,L) ⟨by omega,by omega,aHt hL af (by simpa using aj)⟩ (by first | omega |(dsimp only;omega)) (.c .z (.c .g16 (.c (.s16 .g1) (.c (.s16 .g2) (.c (.s16 .g3) .n))))) (fun _ h=>h.sel (.c .z .n))
 refine Y.exit (Y.ab (Y.ab (Y.ai (Y.g (Y.seq (Y.region (Y.mv rfl .g7 (Y.mv rfl .g6 ?_))))))))
 refine Y.ql rfl (oM (a:=i) (b:=x.length) rfl cZ dV (.t .g1) (.inr ⟨_,_,rfl,(.t .z)⟩) (.inl ⟨rfl,rfl⟩) (by omega) (by omega)) ?_
 have hti:(List.take i L).length=i:=by rw [List.length_take];omega
 refine Y.v (c:=aG cP (List.take i L) [.slice (some ad) (List.take i L).length ac]) (.c .z .n) (fun w S h=>vD (n:=i) (by omega) w S (by rw [hLl];exact h)) ?_
 refine Y.h (WS.w .z) ?_
 rintro⟨-,hcap, -, -⟩
 refine Y.ev (aD rfl) rfl (aB3 (k:=x.length - i) rfl cZ eF rfl (lZ rfl) (by rw [hti];exact(.t .z)) (by rw [hti];split <;> rfl) (.c .z .n) (by rw [hti];omega)) ?_
 rintro _ _ rfl
 refine Y.nt (Y.seq (Y.region (Y.mv rfl .g10 (Y.mv rfl .g9 ?_))))
 refine Y.ql rfl (vM (b:=i) rfl cZ dV (.t .g1) (.t .z) (by omega)) ?_
 refine Y.er .g12 (Y.as rfl .z (Y.nt (Y.ret ?_)))
 refine Y.af (x':=List.filter (hJ p) x) .z (aGf hL (by omega)) ?_
 refine Y.eq .z (show(.slice (some ad) i ac:Value)= .slice (some ad) (List.take i L).length ac by rw [hti]) ?_
 refine Y.i (aY rfl .z) (.c .z .n) ?_
 rfl

theorem aMw {w0:World}{S0:Bs}{f:DFs}{g0 e0 s0:Nat}{aa:List Value}{ag:Value}{ah:Value} (a:Int) (s:ByteArray) (a9:s.size≤140737488351232) (hs:cB [cM g0 e0 s0 1 (ag :: ah :: aa),aG aP f.inodes [ag],aG cG f.data [ah]] w0 S0) (hp:bR f.inodes.length a):
    Calls Tryz.prog 129 #[.pointer (some ⟨g0,0,none⟩),.int .i64 a,.string s] w0 (aJ w0 S0 (yE g0 e0 s0 aa (bH f a (List.filter (hJ (cA s)) (aB f.inodes a))))):=by
 obtain⟨ba,bb⟩:=hp
 refine Y.enter (N:=22) Tryz.func129 rfl rfl (by simp) [(0,.pointer (some ⟨g0,0,none⟩)),(1,.int .i64 a),(2,.string s)] (by simp) hs ?_
 refine Y.h (WS.a .g1) ?_
 rintro⟨bc,ak,rfl,a0,a1,a2⟩
 refine Y.h (WS.a .g2) ?_
 rintro⟨bd,be,rfl,a3,a4,a5⟩
 refine Y.seq (Y.region ?_)
 refine Y.el rfl (fT (cs:= [.string s]) (n:=1) rfl (.t .g2) rfl rfl) ?_
 rintro _ _ ⟨g3,rfl,rfl⟩
 refine Y.nt (Y.seq (Y.region (Y.mv rfl .g1 (Y.nc rfl .z (Y.fa rfl .z aO (Y.ld rfl bK .z .g1 (Y.mv rfl .g6 ?_)))))))
 refine Y.w (.c .g2 .n) eC ?_
 rintro ao ab
 obtain⟨y5,ac⟩:=aI (xs:=f.inodes) (j:=Int.toNat a) (by omega)
 obtain⟨c6,al⟩:=aI (xs:=ao) (j:=Int.toNat a) (by rw [ab];exact(List.getElem?_eq_some_iff.1 ac).1)
 refine Y.an .g1 (cW ac al) ?_
 refine Y.w (.c .z .n) dR ?_
 rintro⟨v7,v8⟩ rfl
 refine Y.h (WS.a .z) ?_
 rintro⟨ai,aj,rfl,ap,aq,ar⟩
 refine Y.h (WS.a .g1) ?_
 rintro⟨a6,a7,rfl,au,av,aw⟩
 have bf:=cH (i:=a) ac (by omega)
 have a8:=cI (a:=a) ac (by omega)
 have bg:=dC (a:=a) ac (by omega)
 refine Y.h (WS.i .g4 (by omega)) ?_
 rintro⟨ad,rfl⟩
 refine Y.ql rfl (aC (j:=Int.toNat a) rfl cE aU (.t .g1) (.t .z) (by omega) (by omega)) ?_
 refine Y.as rfl .z (Y.nt (Y.region (Y.mv rfl .z (Y.mv rfl .g1 (Y.nc rfl .z (Y.fa rfl .z bE (Y.ql rfl (aL rfl dP (.t .z) (WS.h .g4 al rfl)) ?_)))))))
 refine Y.ql rfl (aC2 rfl aJo (bT (.t .g12))) ?_
 refine Y.cl rfl rfl Tryz.func151 rfl rfl (aX (.t .g1) (.t .z)) (.c .g1 .n) (fun _ _ hs tr=>aM5 (p:=(cA s)) Tryz.func152 rfl rfl (fun w2 S2 h2 {x cs} hr=>aM7 hr (gP.wide (tr.ptr .g4 ⟨rfl,by assumption⟩) h2)) hs) ?_
 rintro _ _ rfl
 refine Y.m (.c .n) ?_
 refine Y.h (WS.a .z) ?_
 rintro⟨ae,af,rfl,ax,ay,az⟩
 refine Y.nc rfl .g6 (Y.fa rfl .z bE ?_)
 refine Y.es (aD rfl) rfl (gY (j:=Int.toNat a) (off:=4) (cs:= [.slice ae (List.filter (hJ (cA s)) y5.ents).length af]) rfl nC (.t .z) (gA _ _ _) (.t .g2) rfl (lZ rfl) .g4 al (Nat.le_of_ble_eq_true rfl)) ?_
 refine Y.af (x':=List.set ao (Int.toNat a) [.int .i64 y5.kind,.int .i64 y5.links,.int .i64 y5.size,.slice ai y5.blocks.length aj,.slice ae (List.filter (hJ (cA s)) y5.ents).length af]) .z rfl ?_
 refine Y.nil ?_
 refine Y.v (c:=aG bD (⟨y5.kind,y5.links,y5.size,y5.blocks,List.filter (hJ (cA s)) y5.ents⟩:aF) [.int .i64 y5.kind,.int .i64 y5.links,.int .i64 y5.size,.slice ai y5.blocks.length aj,.slice ae (List.filter (hJ (cA s)) y5.ents).length af]) (.c .g2 (.c .g1 .n)) (fun w S h=>bF (⟨y5.kind,y5.links,y5.size,y5.blocks,List.filter (hJ (cA s)) y5.ents⟩:aF) h) ?_
 refine Y.v (c:=aG aP (List.set f.inodes (Int.toNat a) (⟨y5.kind,y5.links,y5.size,y5.blocks,List.filter (hJ (cA s)) y5.ents⟩:aF)) [.slice (some ad) f.inodes.length ak]) (.c .g1 (.c .z (.c .z (.c .z .n)))) (dQ (K:=bD) ab (List.getElem?_eq_some_iff.1 ac).1 rfl) ?_
 have am:List.set f.inodes (Int.toNat a) (⟨y5.kind,y5.links,y5.size,y5.blocks,List.filter (hJ (cA s)) y5.ents⟩:aF)=eD f.inodes a (List.filter (hJ (cA s)) y5.ents):=(nD ac (by omega))
 refine Y.ak .z (congrArg (fun z_=>(aG aP (z_) [.slice (some ad) f.inodes.length ak]:Asn)) am) ?_
 have an:eD f.inodes a (List.filter (hJ (cA s)) y5.ents)=eD f.inodes a (List.filter (hJ (cA s)) (aB f.inodes a)):=(by rw [a8])
 refine Y.ak .z (congrArg (fun z_=>(aG aP (z_) [.slice (some ad) f.inodes.length ak]:Asn)) an) ?_
 refine Y.aw (sP rfl) (.c .g2 (.c .z (.c .g1 .n))) ?_
 exact⟨_,_,rfl,rfl⟩

theorem aHz {w0:World}{S0:Bs}{f:DFs}{g0 e0 s0:Nat}{ad:List Value}{an:Value}{ao:Value} (a:Int) (i:Nat) (hs:cB [cM g0 e0 s0 1 (an :: ao :: ad),aG aP f.inodes [an],aG cG f.data [ao]] w0 S0) (hp:bR f.inodes.length a) (hi:i<(aB f.inodes a).length):
    Calls Tryz.prog 178 #[.pointer (some ⟨g0,0,none⟩),.int .i64 a,.int .i64 (i:Int)] w0 (aJ w0 S0 (fun r l=>∃v0 v1,r= .int .i64 (eY (aB f.inodes a) i)∧l= [cM g0 e0 s0 1 (v0 :: v1 :: ad),aG aP ((bH f a (List.eraseIdx (aB f.inodes a) i))).inodes [v0],aG cG ((bH f a (List.eraseIdx (aB f.inodes a) i))).data [v1]])):=by
 obtain⟨bv,bw⟩:=hp
 refine Y.enter (N:=40) Tryz.func178 rfl rfl (by simp) [(0,.pointer (some ⟨g0,0,none⟩)),(1,.int .i64 a),(2,.int .i64 (i:Int))] (by simp) hs ?_
 refine Y.h (WS.a .g1) ?_
 rintro⟨bx,au,rfl,bf,bg,bh⟩
 refine Y.h (WS.a .g2) ?_
 rintro⟨bz,b0,rfl,bi,bj,bk⟩
 refine Y.seq (Y.region (Y.ql rfl (aA rfl .c) (Y.nt (Y.seq (Y.region (Y.mv rfl .g1 (Y.nc rfl .z ?_)))))))
 refine Y.fa rfl .z aO (Y.ld rfl bK .z .z (Y.mv rfl .g6 ?_))
 refine Y.w (.c .g1 .n) eC ?_
 rintro a1 ae
 obtain⟨y4,ah⟩:=aI (xs:=f.inodes) (j:=Int.toNat a) (by omega)
 obtain⟨c5,av⟩:=aI (xs:=a1) (j:=Int.toNat a) (by rw [ae];exact(List.getElem?_eq_some_iff.1 ah).1)
 refine Y.an .g1 (cW ah av) ?_
 refine Y.w (.c .z .n) dR ?_
 rintro⟨v6,v7⟩ rfl
 refine Y.h (WS.a .z) ?_
 rintro⟨ap,aq,rfl,a2,a3,a4⟩
 refine Y.h (WS.a .g1) ?_
 rintro⟨bm,ai,rfl,a5,a6,a7⟩
 have b1:=cH (i:=a) ah (by omega)
 have aw:=cI (a:=a) ah (by omega)
 have b2:=dC (a:=a) ah (by omega)
 have a8:(aB f.inodes a).length=y4.ents.length:=by rw [aw]
 refine Y.h (WS.i .g4 (by omega)) ?_
 rintro⟨aj,rfl⟩
 refine Y.ql rfl (aC (j:=Int.toNat a) rfl cE aU (.t .g1) (.t .z) (by omega) (by omega)) ?_
 refine Y.fa rfl .z bE (Y.ql rfl (aL rfl dP (.t .z) (WS.h .g4 av rfl)) (Y.as rfl .z (Y.nt (Y.seq (Y.region (Y.mv rfl .z (Y.mv rfl .g13 ?_)))))))
 refine Y.w (.c .g1 .n) eC ?_
 rintro ax aa
 obtain⟨ar,ac⟩:=aI (xs:=y4.ents) (j:=i) (by omega)
 obtain⟨b3,ak⟩:=aI (xs:=ax) (j:=i) (by rw [aa];exact(List.getElem?_eq_some_iff.1 ac).1)
 refine Y.an .g1 (cW ac ak) ?_
 refine Y.w (.c .z .n) uD ?_
 rintro⟨⟩ ⟨rfl,ay⟩
 refine Y.h (WS.i .g2 (by omega)) ?_
 rintro⟨ab,rfl⟩
 refine Y.ql rfl (aC (j:=i) rfl cZ dV (.t .g1) (.t .z) rfl (by omega)) ?_
 refine Y.fa rfl .z iX (Y.ql rfl (aL rfl cF (.t .z) (WS.h .g2 ak rfl)) (Y.as rfl .z (Y.nt (Y.seq ?_))))
 refine Y.v (c:=aG gH ar [.string ar.name,.int .i64 ar.ino]) .n (fun w S h=>fH ar h (by assumption)) ?_
 refine Y.v (c:=aG cP y4.ents [.slice (some ab) y4.ents.length ai]) (.c .g3 (.c .z (.c .z (.c .z .n)))) (bU (K:=gH) aa ac ak) ?_
 refine Y.sel (.c .z (.c .z (.c .g4 (.c .z (.c .z (.c .z (.c .z .n))))))) ?_
 refine Y.dr .g3 17 gG ?_
 refine Y.sc (qs 0 5++qs 6 3++qs 10 4++ [(5,false),(9,false),(14,false),(15,false),(16,true),(17,false)]) (by kernel_rfl) ?_
 refine Y.dm rfl rfl .g3 .g16 (Y.dn rfl rfl .g3 .z (Y.df rfl rfl .g3 .z aO (Y.dl rfl rfl .g3 bK .z .g3 (Y.dm rfl rfl .g3 (.s16 .g5) (Y.dm rfl rfl .g3 .g11 (Y.dm rfl rfl .g3 (.s16 .g8) ?_))))))
 obtain⟨bn,af⟩:∃A':Option Addr,A'=(if ai=0 then(some ab)else Option.map (fun z=>Addr.add z (0 * 2)) (some ab)):=⟨_,rfl⟩
 have bo:=fR (xs:=y4.ents) (a:=0) (b:=i) (by omega)
 have bp:True:=trivial
 refine Y.dk rfl rfl .g3 (iN (a:=0) (b:=i) rfl cZ dV (.t .g1) af (.inl ⟨rfl,rfl⟩) (.inr ⟨_,_,rfl,(.t .z)⟩) (by omega) (by omega) (by omega)) ?_
 refine Y.dm rfl rfl .g3 .g14 (Y.dm rfl rfl .g3 (.s16 .g11) ?_)
 refine Y.dk rfl rfl .g3 (bQ (c:=((i+1:Nat):Int)) rfl (.t .z) .c (wr (by omega) (by omega) (by omega))) ?_
 obtain⟨bq,ag⟩:∃A':Option Addr,A'=(if ai=i+1 then(some ab)else Option.map (fun z=>Addr.add z ((i+1) * 2)) (some ab)):=⟨_,rfl⟩
 have br:=fR (xs:=y4.ents) (a:=i+1) (b:=y4.ents.length) (by omega)
 have bs:True:=trivial
 refine Y.dk rfl rfl .g3 (iN (a:=i+1) (b:=y4.ents.length) rfl cZ dV (.t .g2) ag (.inr ⟨_,_,rfl,(.t .z)⟩) (.inl ⟨rfl,rfl⟩) (by omega) (by omega) (by omega)) ?_
 refine Y.e (aE rfl rfl) rfl (by decide) rfl (eH rfl cZ (inz eF)) ?_
 rintro _ _ ⟨g24,rfl,rfl⟩
 refine Y.sk .g4 ?_
 refine Y.add (c:=aG cP ([]:(List aQ)) [.slice (some ⟨g24,0,none⟩) 0 0]) (fun w S=>aN w S _) ?_
 refine Y.e (aE rfl rfl) rfl (by decide) rfl (eG (fS _ (eX (bC _ _ _) (bC _ _ _))) rfl cZ eF rfl (.t .z) (.t .g5) (.c .z .n) (fun w1 S1 tr=>(nK (a:=0) (b:=i) af (tr.own .g1) (by omega) (by omega))) (by first | omega |(simp only [List.length_append,List.length_take,List.length_nil,List.length_cons];omega)) (by first | omega |(simp only [List.length_append,List.length_take,List.length_nil,List.length_cons];omega))) ?_
 rintro _ _ rfl
 refine Y.af .z (List.nil_append _) ?_
 refine Y.h (WS.a .z) ?_
 rintro⟨bt,bu,rfl,a9,ba,bb⟩
 refine Y.sk .g5 ?_
 refine Y.e (aE rfl rfl) rfl (by decide) rfl (eG (fS _ (eX (bC _ _ _) (bC _ _ _))) rfl cZ eF rfl (.t .z) (.t .g2) (.c .z .n) (fun w1 S1 tr=>(nK (a:=i+1) (b:=y4.ents.length) ag (tr.own .g1) (by omega) (by omega))) (by first | omega |(simp only [List.length_append,List.length_take,List.length_nil,List.length_cons];omega)) (by first | omega |(simp only [List.length_append,List.length_take,List.length_nil,List.length_cons];omega))) ?_
 rintro _ _ rfl
 refine Y.af .z (aDd _ _) ?_
 refine Y.h (WS.a .z) ?_
 rintro⟨al,am,rfl,bc,bd,be⟩
 refine Y.sk .g5 ?_
 refine Y.q (aE rfl rfl) rfl (by decide) rfl (aC (j:=Int.toNat a) rfl cE aU (.t .g11) (.t .g10) (by omega) (by omega)) ?_
 refine Y.sk .g5 ?_
 refine Y.df rfl rfl .g5 .z bE ?_
 refine Y.es (aE rfl rfl) rfl (gY (j:=Int.toNat a) (off:=4) (cs:= [.slice al (List.eraseIdx y4.ents i).length am]) rfl nC (.t .z) (gA _ _ _) (.t .g2) rfl (lZ rfl) .g7 av (Nat.le_of_ble_eq_true rfl)) ?_
 refine Y.af (x':=List.set a1 (Int.toNat a) [.int .i64 y4.kind,.int .i64 y4.links,.int .i64 y4.size,.slice ap y4.blocks.length aq,.slice al (List.eraseIdx y4.ents i).length am]) .z rfl ?_
 refine Y.sl rfl ?_
 refine Y.aa ?_
 refine Y.ag (by kernel_rfl) ?_
 refine Y.g (Y.seq (Y.region (Y.mv rfl (.s16 .g1) (Y.er (.s16 (.s16 .g1)) (Y.as rfl .z (Y.nt (Y.ret ?_)))))))
 refine Y.v (c:=aG bD (⟨y4.kind,y4.links,y4.size,y4.blocks,List.eraseIdx y4.ents i⟩:aF) [.int .i64 y4.kind,.int .i64 y4.links,.int .i64 y4.size,.slice ap y4.blocks.length aq,.slice al (List.eraseIdx y4.ents i).length am]) (.c .g4 (.c .g1 .n)) (fun w S h=>bF (⟨y4.kind,y4.links,y4.size,y4.blocks,List.eraseIdx y4.ents i⟩:aF) h) ?_
 refine Y.v (c:=aG aP (List.set f.inodes (Int.toNat a) (⟨y4.kind,y4.links,y4.size,y4.blocks,List.eraseIdx y4.ents i⟩:aF)) [.slice (some aj) f.inodes.length au]) (.c .g1 (.c .z (.c .g3 (.c .g3 .n)))) (dQ (K:=bD) ae (List.getElem?_eq_some_iff.1 ah).1 rfl) ?_
 have az:List.set f.inodes (Int.toNat a) (⟨y4.kind,y4.links,y4.size,y4.blocks,List.eraseIdx y4.ents i⟩:aF)=eD f.inodes a (List.eraseIdx y4.ents i):=(nD ah (by omega))
 refine Y.ak .z (congrArg (fun z_=>(aG aP (z_) [.slice (some aj) f.inodes.length au]:Asn)) az) ?_
 have a0:eD f.inodes a (List.eraseIdx y4.ents i)=eD f.inodes a (List.eraseIdx (aB f.inodes a) i):=(by rw [aw])
 refine Y.ak .z (congrArg (fun z_=>(aG aP (z_) [.slice (some aj) f.inodes.length au]:Asn)) a0) ?_
 refine Y.i (aY rfl .z) (.c .g4 (.c .z (.c .g2 .n))) ?_
 exact⟨_,_,by rw [aw,mZ ac],rfl⟩

end Go.Proofs.YtmejbfmhaoilmaaGreat

/- What is proved: contracts of functions, one a function. No condition. -/
import Derived.Test.YtmejbfmhaoilmaaGreatBase1
import Derived.Test.YtmejbfmhaoilmaaGreatW23
import Derived.Test.YtmejbfmhaoilmaaGreatTypesA
namespace Go.Proofs.YtmejbfmhaoilmaaGreat
open Go Go.RowKit
set_option linter.unusedVariables false
set_option linter.unusedSimpArgs false
set_option maxHeartbeats 1000000
set_option maxRecDepth 20000
theorem aG8 {w0:World}{S0:Bs} (a:Int) (b:Int):
    Calls Tryz.prog 47 #[.int .i64 a,.int .i64 b] w0 (aJ w0 S0 (fun r l=>r= .int .i64 (fF a b)∧l= [])):=by
 refine Y.enter (N:=10) Tryz.func47 rfl rfl (by simp) [(0,.int .i64 a),(1,.int .i64 b)] (by simp) (l0:= []) trivial ?_
 refine Y.seq (Y.region (Y.ql rfl (aA rfl .c) (Y.nt (Y.seq (Y.seq (Y.region (Y.mv rfl .g1 ?_)))))))
 refine Y.mv rfl .g3 (Y.ql rfl (dJ rfl (.t .g1) (.t .z)) (Y.nt ?_))
 refine Y.u (.t .z) (fun b1=> ?_) (fun b1=> ?_)
 refine Y.seq (Y.region (Y.mv rfl .g4 (Y.er .g4 (Y.as rfl .z (Y.nt (Y.ret (Y.r ?_)))))))
 refine Y.i (aY rfl .z) .n ?_
 exact⟨by first |(rw [aGm (by assumption)];done) |(rw [aG3 (by assumption)];done),rfl⟩
 refine Y.skip (Y.g (Y.seq (Y.region (Y.mv rfl .g5 (Y.er .g4 (Y.as rfl .z (Y.nt ?_)))))))
 refine Y.ret ?_
 refine Y.i (aY rfl .z) .n ?_
 exact⟨by first |(rw [aGm (by assumption)];done) |(rw [aG3 (by assumption)];done),rfl⟩

theorem aNb {w0:World}{S0:Bs}{f:DFs}{ax:Addr} (h0:gP eU w0 (FF w0 S0) ax f) (ht:bX f=0):
    Calls Tryz.prog 103 #[.pointer (some ax)] w0 (aJ w0 S0 (fun r l=>r= .bool (decide (oA f))∧l= [])):=by
 obtain⟨c4,be,ce,bf⟩:=id h0
 obtain⟨cf,cg,rfl,bg,bh⟩:=cY ce
 obtain⟨ch,ci,rfl,bs,bt,bu,ay⟩:=aH bg
 obtain⟨cj,ck,rfl,bv,bw,bx,az⟩:=aH bh
 have hI:=iY ht
 have hG:=zR ht
 have c5:=aH2 ht
 have c6:=pW hI
 have cm:=qN ht
 refine Y.enter (N:=72) Tryz.func103 rfl rfl (by simp) [(0,.pointer (some ax))] (by simp) (l0:= []) trivial ?_
 refine Y.seq (Y.region (Y.ql rfl (aA rfl .c) (Y.nt (Y.seq (Y.region ?_)))))
 refine Y.el rfl (nA (n:=20) (x0:=(0:Int)) rfl eQ iO rfl (fun _ _=>⟨rfl,trivial⟩) .c .c (by omega) (by omega)) ?_
 rintro _ _ rfl
 refine Y.h (WS.a .z) ?_
 rintro⟨cn,co,rfl,cp,cq,cr⟩
 refine Y.as rfl .z (Y.nt (Y.seq (Y.seq (Y.region (Y.ql rfl (aA rfl .c) (Y.nt ?_))))))
 refine Y.block ?_
 refine Y.aj (γ:=Nat×(Option Addr)×Nat) (fun⟨k,ab,ac⟩=> [(4,.int .i64 (k:Int)),(3,.slice ab (gU f.inodes k).length ac),(2,.bool false),(0,.pointer (some ax))]) (fun⟨k,ab,ac⟩=> [aG bY (gU f.inodes k) [.slice ab (gU f.inodes k).length ac]]) (fun⟨k,ab,ac⟩=>k≤f.inodes.length) (fun⟨k,ab,ac⟩=>f.inodes.length - k) (0,cn,co) (Nat.zero_le _) (.c .z (.c .g1 (.c .g3 (.c .g4 .n)))) (fun _ h=>h.sel (.c .z .n)) ?_
 rintro⟨k,ab,ac⟩ hk
 have hwt:(gU f.inodes k).length=20:=nT k
 refine Y.seq (Y.seq (Y.region (Y.mv rfl .z (Y.mv rfl .g4 (Y.nc rfl .z (Y.fa rfl .z aO (Y.le rfl bK .z be bf (Y.ql rfl (bM rfl cE (.t .z)) ?_))))))))
 refine Y.ql rfl (dJ rfl (.t .g5) (.t .z)) (Y.nt ?_)
 refine Y.u (.t .z) (fun b5=> ?_) (fun b5=> ?_)
 refine Y.skip (Y.g (Y.seq (Y.block (Y.seq (Y.region (Y.mv rfl .g10 (Y.nc rfl .z (Y.fa rfl .z aO ?_))))))))
 refine Y.le rfl bK .z be bf (Y.mv rfl .g11 ?_)
 obtain⟨cs,a0,a1⟩:=ay (by omega)
 subst a0
 obtain⟨x7,a2⟩:=aI (xs:=f.inodes) (j:=k) (by first | omega |(simp <;> omega))
 obtain⟨ct,bi,ai,aj⟩:=a1.elem a2
 obtain⟨bz,b0,rfl,a3,a4⟩:=cK bi
 obtain⟨b1,b2,rfl,bj,bk,bm,ak⟩:=aH a3
 obtain⟨b3,b4,rfl,bn,bo,bp,bq⟩:=aH a4
 have c7:=cH (i:=((k:Nat):Int)) a2 (by omega)
 have c8:=cI (a:=((k:Nat):Int)) a2 (by omega)
 have al:=dT hI _ (List.mem_of_getElem? a2)
 refine Y.ql rfl (aC (j:=k) rfl cE aU (.t .g1) (.t .z) rfl (by first | omega |(simp <;> omega))) ?_
 refine Y.as rfl .z (Y.nt (Y.seq (Y.region (Y.ql rfl (aA rfl .c) (Y.nt (Y.block ?_))))))
 have a5:gU f.inodes k=lK x7 (gU f.inodes k) 0:=rfl
 refine Y.eq .g16 (congrArg (fun z_=>(.slice ab (z_).length ac:Value)) a5) ?_
 refine Y.ak .z (congrArg (fun z_=>(aG bY (z_) [.slice ab (z_).length ac]:Asn)) a5) ?_
 refine Y.aj (γ:=Nat×(Option Addr)×Nat) (fun⟨q,ad,aa⟩=> [(3,.slice ad (lK x7 (gU f.inodes k) q).length aa),(6,.int .i64 (q:Int)),(5,.pointer (some (Addr.add cs (k * 5)))),(4,.int .i64 (k:Int)),(2,.bool false),(0,.pointer (some ax))]) (fun⟨q,ad,aa⟩=> [aG bY (lK x7 (gU f.inodes k) q) [.slice ad (lK x7 (gU f.inodes k) q).length aa]]) (fun⟨q,ad,aa⟩=>q≤x7.blocks.length) (fun⟨q,ad,aa⟩=>x7.blocks.length - q) (0,ab,ac) (Nat.zero_le _) (.c .z (.c .g1 (.c .g2 (.c .g16 (.c (.s16 .g1) (.c (.s16 .g2) .n)))))) (fun _ h=>h.sel (.c .z .n)) ?_
 rintro⟨q,ad,aa⟩ hq
 have hwi:(lK x7 (gU f.inodes k) q).length=20:=(sO q).trans (nT k)
 refine Y.seq (Y.seq (Y.region (Y.mv rfl .g1 (Y.mv rfl .g3 (Y.nc rfl .z (Y.fa rfl .z dI (Y.le rfl fA .z ai aj (Y.ql rfl (bM rfl eQ (.t .z)) ?_))))))))
 refine Y.ql rfl (dJ rfl (.t .g5) (.t .z)) (Y.nt ?_)
 refine Y.u (.t .z) (fun cu=> ?_) (fun cu=> ?_)
 refine Y.skip (Y.g (Y.seq (Y.block ?_)))
 refine Y.dr .g1 17 gG ?_
 refine Y.sc (qs 0 15++ [(15,false),(16,true),(17,false)]) (by kernel_rfl) ?_
 refine Y.dm rfl rfl .g1 .g7 (Y.dm rfl rfl .g1 .g10 (Y.dn rfl rfl .g1 .z (Y.df rfl rfl .g1 .z dI (Y.de rfl rfl .g1 fA .z ai aj (Y.dm rfl rfl .g1 .g13 ?_)))))
 obtain⟨cv,am,an⟩:=ak (by omega)
 subst am
 obtain⟨a6,ao⟩:=aI (xs:=x7.blocks) (j:=q) (by first | omega |(simp <;> omega))
 obtain⟨b6,a7,a8,a9⟩:=an.elem ao
 obtain⟨rfl,cw⟩:=a7
 have b7:=(nX al).2 _ (List.mem_of_getElem? ao)
 have p4x14:=(nX al).1
 have b8:=aIn al
 refine Y.dk rfl rfl .g1 (aC (j:=q) rfl eQ jQ (.t .g1) (.t .z) rfl (by first | omega |(simp <;> omega))) ?_
 refine Y.dk rfl rfl .g1 (aL rfl cF (.t .z) (WS.j a8 a9 rfl)) (Y.dm rfl rfl .g1 (.s16 .g1) (Y.dn rfl rfl .g1 .z (Y.df rfl rfl .g1 .z hX (Y.de rfl rfl .g1 cF .z ai aj (Y.dm rfl rfl .g1 (.s16 .g4) ?_)))))
 refine Y.dk rfl rfl .g1 (sU (c:=((q * 8:Nat):Int)) rfl (.t .z) .c (wr (by omega) (by omega) (by omega))) ?_
 refine Y.dk rfl rfl .g1 (jL (c:=x7.size - ((q * 8:Nat):Int)) rfl (.t .g2) (.t .z) (wr (by omega) (by omega) (by omega))) ?_
 refine Y.call (aE rfl rfl) rfl (by decide) rfl (bS rfl Tryz.func47 rfl rfl (aX .c (.t .z))) .n (fun _ _ hs tr=>aG8 _ _) ?_
 rintro _ _ ⟨rfl,rfl⟩
 refine Y.m .n ?_
 have cx:=lL 8 (x7.size - ((q * 8:Nat):Int))
 refine Y.sk .g1 ?_
 refine Y.h (WS.i .z (by first | omega |(simp <;> omega))) ?_
 rintro⟨ae,rfl⟩
 refine Y.dk rfl rfl .g1 (aC (j:=Int.toNat a6) rfl eQ jQ (.t .g15) (.t .g8) (by omega) (by first | omega |(simp <;> omega))) ?_
 refine Y.add (c:=aG (iQ .i64) (fF 8 (x7.size - ((q * 8:Nat):Int))) [.int .i64 (fF 8 (x7.size - ((q * 8:Nat):Int)))]) (fun _ _=>⟨rfl,trivial⟩) ?_
 refine Y.es (aE rfl rfl) rfl (oH (j:=Int.toNat a6) rfl jQ (.t .z) (.t .g1) rfl (.c .g1 (.c .z .n)) (by first | omega |(simp <;> omega))) ?_
 have ap:(lK x7 (gU f.inodes k) q).length=(List.set (lK x7 (gU f.inodes k) q) (Int.toNat a6) (fF 8 (x7.size - ((q * 8:Nat):Int)))).length:=(List.length_set ..).symm
 refine Y.eq .g16 (congrArg (fun z_=>(.slice (some ae) z_ aa:Value)) ap) ?_
 refine Y.eq (.s16 .g8) (congrArg (fun z_=>(.slice (some ae) z_ aa:Value)) ap) ?_
 refine Y.ak .z (congrArg (fun z_=>(aG bY (List.set (lK x7 (gU f.inodes k) q) (Int.toNat a6) (fF 8 (x7.size - ((q * 8:Nat):Int)))) [.slice (some ae) z_ aa]:Asn)) ap) ?_
 have aq:List.set (lK x7 (gU f.inodes k) q) (Int.toNat a6) (fF 8 (x7.size - ((q * 8:Nat):Int)))=lK x7 (gU f.inodes k) (q+1):=(aIl ao)
 refine Y.eq .z (congrArg (fun z_=>(.slice (some ae) (z_).length aa:Value)) aq) ?_
 refine Y.eq .g1 (congrArg (fun z_=>(.slice (some ae) (z_).length aa:Value)) aq) ?_
 refine Y.ak .z (congrArg (fun z_=>(aG bY (z_) [.slice (some ae) (z_).length aa]:Asn)) aq) ?_
 refine Y.sl rfl ?_
 refine Y.aa ?_
 refine Y.ag (by kernel_rfl) ?_
 refine Y.ac (Y.g (Y.region (Y.mv rfl (.s16 .g9) ?_)))
 refine Y.ql rfl (bQ (c:=((q+1:Nat):Int)) rfl (.t .z) .c (wr (by omega) (by omega) (by omega))) ?_
 refine Y.er (.s16 .g11) (Y.as rfl .z (Y.nil ?_))
 refine Y.ae ((q+1),(some ae),aa) (by omega) (by first | omega |(dsimp only;omega)) (.c .g4 (.c .z (.c (.s16 .g12) (.c (.s16 .g13) (.c (.s16 .g14) (.c (.s16 .g15) .n)))))) (fun _ h=>h.sel (.c .z .n))
 refine Y.exit (Y.ab (Y.ab (Y.ai (Y.ac (Y.g (Y.region (Y.mv rfl .g10 ?_)))))))
 refine Y.ql rfl (bQ (c:=((k+1:Nat):Int)) rfl (.t .z) .c (wr (by omega) (by omega) (by omega))) ?_
 refine Y.er .g12 (Y.as rfl .z (Y.nil ?_))
 have ba:lK x7 (gU f.inodes k) q=gU f.inodes (k+1):=(aGp a2 (by omega) (by omega))
 refine Y.eq .g10 (congrArg (fun z_=>(.slice ad (z_).length aa:Value)) ba) ?_
 refine Y.ak .z (congrArg (fun z_=>(aG bY (z_) [.slice ad (z_).length aa]:Asn)) ba) ?_
 refine Y.ae ((k+1),ad,aa) (by omega) (by first | omega |(dsimp only;omega)) (.c .g1 (.c .z (.c .g13 (.c .g14 .n)))) (fun _ h=>h.sel (.c .z .n))
 refine Y.exit (Y.ab (Y.ab (Y.ai (Y.g (Y.seq (Y.seq (Y.region (Y.ql rfl (aA rfl .c) ?_))))))))
 refine Y.nt (Y.block ?_)
 have bb:gU f.inodes k=tI f:=(by rw [show k=f.inodes.length by omega])
 refine Y.eq .g9 (congrArg (fun z_=>(.slice ab (z_).length ac:Value)) bb) ?_
 refine Y.ak .z (congrArg (fun z_=>(aG bY (z_) [.slice ab (z_).length ac]:Asn)) bb) ?_
 refine Y.aj (γ:=Nat×(Option Addr)×Nat) (fun⟨z,ag,af⟩=> [(3,.slice ag (tI f).length af),(7,.int .i64 (z:Int)),(0,.pointer (some ax))]) (fun⟨z,ag,af⟩=> [aG bY (tI f) [.slice ag (tI f).length af]]) (fun⟨z,ag,af⟩=>z≤f.data.length∧∀(j:Nat) (b:List UInt8),j<z→f.data[j]? =some b→(tI f)[j]? =some (b.length:Int)) (fun⟨z,ag,af⟩=>f.data.length - z) (0,ab,ac) ⟨Nat.zero_le _,eV (q:=fun j (b:List UInt8)=>(tI f)[j]? =some (b.length:Int))⟩ (.c .z (.c .g1 (.c .g11 .n))) (fun _ h=>h.sel (.c .z .n)) ?_
 rintro⟨z,ag,af⟩ ⟨hz,hallz⟩
 have hwl:(tI f).length=20:=nT _
 refine Y.seq (Y.seq (Y.region (Y.mv rfl .g1 (Y.mv rfl .g3 (Y.nc rfl .z (Y.fa rfl .z gR (Y.le rfl lM .z be bf (Y.ql rfl (bM rfl mA (.t .z)) ?_))))))))
 refine Y.ql rfl (dJ rfl (.t .g5) (.t .z)) (Y.nt ?_)
 refine Y.u (.t .z) (fun cy=> ?_) (fun cy=> ?_)
 refine Y.skip (Y.g (Y.seq (Y.block (Y.seq ?_))))
 refine Y.dr .z 13 gG ?_
 refine Y.sc (qs 0 13) (by kernel_rfl) ?_
 refine Y.dm rfl rfl .z .g9 (Y.dn rfl rfl .z .z (Y.df rfl rfl .z .z gR (Y.de rfl rfl .z lM .z be bf (Y.dm rfl rfl .z .g12 ?_))))
 obtain⟨cz,ar,au⟩:=az (by omega)
 subst ar
 obtain⟨c9,av⟩:=aI (xs:=f.data) (j:=z) (by first | omega |(simp <;> omega))
 obtain⟨b9,ah,bc,bd⟩:=au.elem av
 obtain⟨c0,rfl⟩:=mD ah
 obtain⟨c1,c2,rfl,ca,cb,cc,cd⟩:=aH ah
 refine Y.dk rfl rfl .z (aC (j:=z) rfl mA mC (.t .g1) (.t .z) rfl (by first | omega |(simp <;> omega))) ?_
 refine Y.dk rfl rfl .z (aL rfl nL (.t .z) (WS.j bc bd rfl)) (Y.dk rfl rfl .z (bM rfl gV (.t .z)) (Y.dm rfl rfl .z .g15 (Y.dm rfl rfl .z (.s16 .g1) ?_)))
 refine Y.h (WS.i .z (by first | omega |(simp <;> omega))) ?_
 rintro⟨br,rfl⟩
 refine Y.dk rfl rfl .z (aC (j:=z) rfl eQ jQ (.t .g1) (.t .z) rfl (by first | omega |(simp <;> omega))) ?_
 obtain⟨da,aw⟩:=aI (xs:=tI f) (j:=z) (by first | omega |(simp <;> omega))
 refine Y.dk rfl rfl .z (aL rfl cF (.t .z) (WS.m .z aw)) (Y.dk rfl rfl .z (cU rfl (.t .g4) (.t .z)) (Y.aa ?_))
 refine Y.ag (by kernel_rfl) ?_
 refine Y.g ?_
 refine Y.ad (.t .z) (fun c3=> ?_) (fun c3=> ?_)
 refine Y.seq (Y.region (Y.ql rfl (aA rfl .c) (Y.nt (Y.ret (Y.y (Y.r (Y.r ?_)))))))
 refine Y.y (Y.r ?_)
 refine Y.i (aY rfl .z) .n ?_
 exact⟨by first |(rw [decide_eq_true (aB8 (k:=z) (by omega) hallz)];done) |(rw [decide_eq_false (aIm av aw (by omega))];done),rfl⟩
 refine Y.skip (Y.ac (Y.g (Y.region (Y.mv rfl (.s16 .g5) ?_))))
 refine Y.ql rfl (bQ (c:=((z+1:Nat):Int)) rfl (.t .z) .c (wr (by omega) (by omega) (by omega))) ?_
 refine Y.er (.s16 .g7) (Y.as rfl .z (Y.nil ?_))
 refine Y.ae ((z+1),(some br),af) ⟨by omega,aKi hallz av aw (by omega)⟩ (by first | omega |(dsimp only;omega)) (.c (.s16 .g7) (.c .z (.c (.s16 .g8) .n))) (fun _ h=>h.sel (.c .z .n))
 refine Y.exit (Y.ab (Y.ab (Y.ai (Y.g (Y.seq (Y.region (Y.ql rfl (aA rfl .c) (Y.nil ?_))))))))
 refine Y.g (Y.ret ?_)
 refine Y.i (aY rfl .z) .n ?_
 exact⟨by first |(rw [decide_eq_true (aB8 (k:=z) (by omega) hallz)];done),rfl⟩

theorem aNm {w0:World}{S0:Bs}{f:DFs}{aa:Addr} (h0:gP eU w0 (FF w0 S0) aa f):
    Calls Tryz.prog 56 #[.pointer (some aa)] w0 (aJ w0 S0 (fun r l=>r= .int .i64 (fJ f)∧l= [])):=by
 obtain⟨au,av,al,aw⟩:=id h0
 obtain⟨am,an,rfl,ab,ac⟩:=cY al
 obtain⟨ao,ap,rfl,ad,ae,af,ag⟩:=aH ab
 obtain⟨aq,ar,rfl,ah,ai,aj,ak⟩:=aH ac
 refine Y.enter (N:=17) Tryz.func56 rfl rfl (by simp) [(0,.pointer (some aa))] (by simp) (l0:= []) trivial ?_
 refine Y.seq (Y.region (Y.ql rfl (aA rfl .c) (Y.nt (Y.seq (Y.seq (Y.region (Y.mv rfl .g1 ?_)))))))
 refine Y.cl rfl rfl Tryz.func52 rfl rfl (bT (.t .z)) .n (fun _ _ hs tr=>aNg (tr.ctxP h0)) ?_
 rintro _ _ ⟨rfl,rfl⟩
 refine Y.m .n ?_
 refine Y.as rfl .z (Y.nt (Y.seq (Y.region (Y.mv rfl .z (Y.ql rfl (cU rfl (.t .z) .c) (Y.nt ?_))))))
 refine Y.ad (.t .z) (fun b3=> ?_) (fun b3=> ?_)
 refine Y.seq (Y.region (Y.mv rfl .g2 (Y.er .g6 (Y.as rfl .z (Y.nt (Y.ret (Y.r ?_)))))))
 refine Y.i (aY rfl .z) .n ?_
 exact⟨by first |(rw [sE (by assumption)];done) |(rw [sD (by assumption) (by assumption)];done) |(rw [sF (by assumption) (by assumption)];done) |(rw [jY (by assumption) (.inl (by assumption))];done) |(rw [jY (by assumption) (.inr (by assumption))];done) |(rw [pO (by assumption) (by assumption) (by assumption)];done),rfl⟩
 refine Y.skip (Y.g (Y.seq (Y.seq (Y.region (Y.mv rfl .g6 ?_)))))
 refine Y.cl rfl rfl Tryz.func102 rfl rfl (bT (.t .z)) .n (fun _ _ hs tr=>aLo (tr.ctxP h0) (by assumption)) ?_
 rintro _ _ ⟨rfl,rfl⟩
 refine Y.m .n ?_
 refine Y.ql rfl (fN rfl (.t .z)) (Y.mv rfl .z ?_)
 refine Y.ap .z (fun g4=> ?_) (fun g4=> ?_)
 refine Y.j rfl rfl .z rfl rfl (by decide) rfl ?_
 refine Y.j rfl rfl .g1 rfl rfl (by decide) rfl ?_
 refine Y.j rfl rfl .g2 rfl rfl (by decide) rfl ?_
 refine Y.ql rfl (bO rfl (.t .g3) .c) (Y.nt ?_)
 refine Y.ao (.t .z) ?_
 refine Y.seq (Y.region (Y.er .g13 (Y.ql rfl (aA rfl .c) (Y.nt (Y.ret (Y.r ?_))))))
 refine Y.i (aY rfl .z) .n ?_
 exact⟨by first |(rw [sE (by assumption)];done) |(rw [sD (by assumption) (by assumption)];done) |(rw [sF (by assumption) (by assumption)];done) |(rw [jY (by assumption) (.inl (by assumption))];done) |(rw [jY (by assumption) (.inr (by assumption))];done) |(rw [pO (by assumption) (by assumption) (by assumption)];done),rfl⟩
 refine Y.qg rfl rfl .z rfl rfl rfl (aV rfl (.t .g10)) ?_
 refine Y.call (fU rfl rfl .g1) rfl (by decide) rfl (bS rfl Tryz.func103 rfl rfl (bT (.t .z))) .n (fun _ _ hs tr=>aNb (tr.ctxP h0) (by assumption)) ?_
 rintro _ _ ⟨rfl,rfl⟩
 refine Y.m .n ?_
 refine Y.qg rfl rfl .g2 rfl rfl rfl (fN rfl (.t .z)) ?_
 refine Y.ql rfl (bW rfl (.t .g3) (.t .z)) (Y.nt ?_)
 refine Y.ad (.t .z) (fun b5=> ?_) (fun b5=> ?_)
 refine Y.seq (Y.region (Y.er .g13 (Y.ql rfl (aA rfl .c) (Y.nt (Y.ret (Y.r ?_))))))
 refine Y.i (aY rfl .z) .n ?_
 exact⟨by first |(rw [sE (by assumption)];done) |(rw [sD (by assumption) (by assumption)];done) |(rw [sF (by assumption) (by assumption)];done) |(rw [jY (by assumption) (.inl (by assumption))];done) |(rw [jY (by assumption) (.inr (by assumption))];done) |(rw [pO (by assumption) (by assumption) (by assumption)];done),rfl⟩
 refine Y.skip (Y.g (Y.seq (Y.region (Y.er .g13 (Y.ql rfl (aA rfl .c) (Y.nt (Y.ret ?_)))))))
 refine Y.i (aY rfl .z) .n ?_
 exact⟨by first |(rw [sE (by assumption)];done) |(rw [sD (by assumption) (by assumption)];done) |(rw [sF (by assumption) (by assumption)];done) |(rw [jY (by assumption) (.inl (by assumption))];done) |(rw [jY (by assumption) (.inr (by assumption))];done) |(rw [pO (by assumption) (by assumption) (by assumption)];done),rfl⟩

end Go.Proofs.YtmejbfmhaoilmaaGreat

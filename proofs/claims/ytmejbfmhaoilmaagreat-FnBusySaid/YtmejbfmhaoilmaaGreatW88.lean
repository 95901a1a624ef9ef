/- What is proved: contracts of functions, one a function. No condition. -/
import Derived.Test.YtmejbfmhaoilmaaGreatBase1
import Derived.Test.YtmejbfmhaoilmaaGreatW87
import Derived.Test.YtmejbfmhaoilmaaGreatBase2
namespace Go.Proofs.YtmejbfmhaoilmaaGreat
open Go Go.RowKit
set_option linter.unusedVariables false
set_option linter.unusedSimpArgs false
set_option maxHeartbeats 1000000
set_option maxRecDepth 20000
theorem aNe {w0:World}{S0:Bs}{cd:(List UInt8)}{v0:Value} (h0:bX.ro w0 (FF w0 S0) cd [v0]) (hcl:cd.length≤1048576):
    Calls Tryz.prog 39 #[v0] w0 (aI w0 S0 (fun r l=>∃(f:DFs) (v0_ v1_:Value) (m0:Int),(f.inodes.length≤11∧f.data.length≤20∧ -1≤m0∧m0≤12)∧r= .tuple #[.agg #[v0_,v1_],.int .i64 m0]∧l= [aG (lV aW) f.inodes [v0_],aG (lV cV) f.data [v1_]])):=by
 obtain⟨A0,c0,rfl,bm,bn,bo,bp⟩:=aD h0
 refine Y.enter (N:=40) Tryz.func39 rfl rfl (by simp) [(0,.slice A0 cd.length c0)] (by simp) (l0:= []) trivial ?_
 refine Y.seq (Y.region ?_)
 refine Y.el rfl (bD rfl mQ rfl rfl) ?_
 rintro _ _ ⟨g2,rfl,rfl⟩
 refine Y.ql rfl (aA rfl .c) (Y.nt (Y.seq (Y.region (Y.mv rfl .g2 ?_))))
 refine Y.cl rfl rfl Tryz.func40 rfl rfl (bH (.t .z)) .n (fun _ _ hs tr=>aJc (tr.ctx h0)) ?_
 rintro _ _ ⟨g3,rfl,rfl⟩
 refine Y.r (.c .n) ?_
 refine Y.as rfl .z (Y.nt (Y.seq (Y.region (Y.mv rfl .z ?_))))
 refine Y.cl rfl rfl Tryz.func49 rfl rfl (bH (.t .z)) (.c .z .n) (fun _ _ hs tr=>aNi (tr.ctx h0) hs (by omega)) ?_
 rintro _ _ ⟨aa,v6,v8,u4,a8,rfl,rfl⟩
 refine Y.r (.c (.c (.c .n))) ?_
 refine Y.i (WS.u .z) ?_
 rintro⟨ac,ad,rfl,a9,ba,bb⟩
 refine Y.i (WS.u .g1) ?_
 rintro⟨ae,af,rfl,bc,bd,be⟩
 refine Y.a0 .z ?_
 intro w0 S0 an ab ah
 replace h0:=an h0
 refine Y.a0 .z ?_
 intro w0 S0 ag bf ai
 replace ab:=ag ab
 replace h0:=ag h0
 refine Y.el rfl (bD rfl mQ rfl rfl) ?_
 rintro _ _ ⟨g23,rfl,rfl⟩
 refine Y.es (aE rfl) rfl (esW rfl (.t .z) (.t .g1) .z aX rfl rfl) ?_
 refine Y.nt (Y.seq (Y.region (Y.mv rfl .g3 (Y.fa rfl .g1 aP (Y.ld rfl bO .z .z (Y.ql rfl (bE rfl cI (.t .z)) ?_))))))
 refine Y.ql rfl (bG (c:=((aa.inodes.length+2:Nat):Int)) rfl (.t .z) .c (wr (by omega) (by omega) (by omega))) ?_
 refine Y.cl rfl rfl Tryz.func42 rfl rfl (aR (.t .g4) (.t .z)) (.c .g1 .n) (fun _ _ hs tr=>lA (tr.ctx h0) _ hs (by omega) (by omega)) ?_
 rintro _ _ ⟨bg,h0m24,h1m24,rfl,rfl⟩
 refine Y.r (.c .n) ?_
 refine Y.ql rfl (jO (c:=bg - 1) rfl (.t .z) .c (wr (by omega) (by omega) (by omega))) ?_
 refine Y.as rfl .z (Y.nt (Y.seq (Y.seq (Y.region (Y.ql rfl (aA rfl .c) (Y.nt ?_))))))
 refine Y.block ?_
 refine Y.ah (γ:=Nat×Int×Int) (fun⟨k,m,z⟩=> [(7,.int .i64 (k:Int)),(6,.int .i64 m),(5,.pointer (some ⟨g23,0,none⟩)),(4,.pointer (some ⟨g3,0,none⟩)),(3,.int .i64 0),(2,.pointer (some ⟨g2,0,none⟩))]) (fun⟨k,m,z⟩=> [bZ g3 119 2 1 [.slice A0 cd.length c0,.int .i64 z],bZ g23 27 2 1 [.slice ac aa.inodes.length ad,.slice ae aa.data.length af],bZ g2 27 2 1 [.slice none 0 0,.slice none 0 0]]) (fun⟨k,m,z⟩=>k≤aa.inodes.length∧(0≤z∧z≤3000+k)∧(-1≤m∧m≤12)) (fun⟨k,m,z⟩=>aa.inodes.length - k) (0,bg - 1,(u4+1)) ⟨Nat.zero_le _,by omega,by omega⟩ (.c .z (.c .g1 (.c .g9 (.c .g12 (.c .g15 (.c .g16 .n)))))) (fun _ h=>h.sel (.c .z (.c .z (.c .z .n)))) ?_
 rintro⟨k,m,z⟩ ⟨hk,hz,hm⟩
 refine Y.seq (Y.seq (Y.region (Y.mv rfl .z (Y.fa rfl .g3 aP (Y.ld rfl bO .z .g1 (Y.ql rfl (bE rfl cI (.t .z)) (Y.ql rfl (cU rfl (.t .g3) (.t .z)) (Y.nil ?_))))))))
 refine Y.g ?_
 refine Y.u (.t .z) (fun bi=> ?_) (fun bi=> ?_)
 refine Y.skip (Y.g (Y.seq (Y.block (Y.seq (Y.region (Y.fa rfl .g7 aP (Y.ld rfl bO .z .g1 (Y.mv rfl .g7 ?_))))))))
 obtain⟨bj,aj,ak⟩:=(yO ab) (by omega)
 subst aj
 obtain⟨bq,a1⟩:=aJ (xs:=aa.inodes) (j:=k) (by omega)
 obtain⟨bh,ao,ap,aq⟩:=ak.elem a1
 obtain⟨a2,a3,rfl,al,am⟩:=bV ao
 obtain⟨a4,a5,rfl,ar,au,av,aw⟩:=aD al
 obtain⟨a6,a7,rfl,ax,ay,az,a0⟩:=aD am
 refine Y.ql rfl (aB (j:=k) rfl cI aU (.t .g1) (.t .z) rfl (by omega)) ?_
 refine Y.fa rfl .z bW (Y.le rfl bR .z ap aq (Y.ql rfl (bP rfl (.t .z) .c) (Y.mv rfl .z ?_)))
 refine Y.ak .z (fun g31=> ?_) (fun g31=> ?_)
 refine Y.qg rfl rfl .z rfl rfl rfl (aS rfl (.t .g16)) ?_
 refine Y.call (dX rfl rfl .g1) rfl (by decide) rfl (bF rfl Tryz.func87 rfl rfl (aR (.t .z) .c)) (.c .z .n) (fun _ _ hs tr=>aGm (tr.ctx h0) _ hs (by omega) (by omega)) ?_
 rintro _ _ ⟨br,rfl,rfl⟩
 refine Y.r (.c .n) ?_
 refine Y.ql rfl (bB rfl (.t .g2) (.t .z)) (Y.nt ?_)
 refine Y.cond (.t .z) (fun bk=> ?_) (fun bk=> ?_)
 refine Y.region (Y.mv rfl .g16 (Y.er (.s16 .g2) (Y.as rfl .z (Y.nil (Y.y (Y.g (Y.region (Y.mv rfl (.s16 .g2) ?_))))))))
 refine Y.ql rfl (bG (c:=((k+1:Nat):Int)) rfl (.t .z) .c (wr (by omega) (by omega) (by omega))) ?_
 refine Y.er (.s16 .g4) (Y.as rfl .z (Y.nil ?_))
 refine Y.ae ((k+1),(k:Int),(z+1)) ⟨by omega,by omega,by omega⟩ (by first | omega |(dsimp only;omega)) (.c .z (.c .g3 (.c (.s16 .g5) (.c (.s16 .g6) (.c (.s16 .g7) (.c (.s16 .g8) .n)))))) (fun _ h=>h.sel (.c .z (.c .z (.c .z .n))))
 refine Y.skip (Y.y (Y.g (Y.region (Y.mv rfl .g16 ?_))))
 refine Y.ql rfl (bG (c:=((k+1:Nat):Int)) rfl (.t .z) .c (wr (by omega) (by omega) (by omega))) ?_
 refine Y.er (.s16 .g2) (Y.as rfl .z (Y.nil ?_))
 refine Y.ae ((k+1),m,(z+1)) ⟨by omega,by omega,by omega⟩ (by first | omega |(dsimp only;omega)) (.c .z (.c (.s16 .g3) (.c (.s16 .g4) (.c (.s16 .g5) (.c (.s16 .g6) (.c (.s16 .g7) .n)))))) (fun _ h=>h.sel (.c .z (.c .z (.c .z .n))))
 refine Y.h rfl rfl .z rfl rfl (by decide) rfl ?_
 refine Y.h rfl rfl .g1 rfl rfl (by decide) rfl ?_
 refine Y.ql rfl (aV rfl (.t .g2) .c) (Y.nt ?_)
 refine Y.an (.t .z) ?_
 refine Y.skip (Y.y (Y.g (Y.region (Y.mv rfl .g16 ?_))))
 refine Y.ql rfl (bG (c:=((k+1:Nat):Int)) rfl (.t .z) .c (wr (by omega) (by omega) (by omega))) ?_
 refine Y.er (.s16 .g2) (Y.as rfl .z (Y.nil ?_))
 refine Y.ae ((k+1),m,z) ⟨by omega,by omega,by omega⟩ (by first | omega |(dsimp only;omega)) (.c .z (.c (.s16 .g3) (.c (.s16 .g4) (.c (.s16 .g5) (.c (.s16 .g6) (.c (.s16 .g7) .n)))))) (fun _ h=>h.sel (.c .z (.c .z (.c .z .n))))
 refine Y.exit (Y.w (Y.w (Y.ag (Y.g (Y.seq (Y.region (Y.ql rfl (qW rfl bN (.t .g7) .g1 aX) (Y.mv rfl .g7 ?_))))))))
 refine Y.es (aE rfl) rfl (esW rfl (.t .g12) (.t .g1) .g2 aX rfl rfl) ?_
 refine Y.er .g11 (Y.as rfl .z (Y.nt (Y.ret ?_)))
 refine Y.a4 [aG (lV aW) aa.inodes [.slice ac aa.inodes.length ad],aG (lV cV) aa.data [.slice ae aa.data.length af]] (fun l w h=>ah _ _ (ai _ _ (h))) ?_
 refine Y.j (aJj (cs:= [.slice ac aa.inodes.length ad,.slice ae aa.data.length af]) rfl .g12 bN aX (WS.v (cs:= [.slice ac aa.inodes.length ad,.slice ae aa.data.length af]) .z (fun _ _ h=>h)) .z) .n ?_
 exact⟨aa,_,_,m,⟨by first | assumption | omega | decide |(simp <;> omega),by first | assumption | omega | decide |(simp <;> omega),by first | assumption | omega | decide |(simp <;> omega)⟩,rfl,rfl⟩

end Go.Proofs.YtmejbfmhaoilmaaGreat

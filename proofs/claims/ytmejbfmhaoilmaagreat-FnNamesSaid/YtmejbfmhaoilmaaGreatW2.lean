/- What is proved: contracts of functions, one a function. No condition. -/
import Derived.Test.YtmejbfmhaoilmaaGreatBase1
import Derived.Test.YtmejbfmhaoilmaaGreatW1
namespace Go.Proofs.YtmejbfmhaoilmaaGreat
open Go Go.RowKit
set_option linter.unusedVariables false
set_option linter.unusedSimpArgs false
set_option maxHeartbeats 1000000
set_option maxRecDepth 20000
theorem aLe {w0:World}{S0:Bs}{x:aF}{ah:Addr} (h0:gP bD w0 (FF w0 S0) ah x):
    Calls Tryz.prog 162 #[.pointer (some ah)] w0 (aJ w0 S0 (fun r l=>r= .int .i64 (fW x)∧l= [])):=by
 obtain⟨bq,ab,ba,ac⟩:=id h0
 obtain⟨bb,bc,rfl,au,av⟩:=cK ba
 obtain⟨bd,be,rfl,a0,a1,a2,ad⟩:=aH au
 obtain⟨bf,bg,rfl,a3,a4,a5,a6⟩:=aH av
 refine Y.enter (N:=78) Tryz.func162 rfl rfl (by simp) [(0,.pointer (some ah))] (by simp) (l0:= []) trivial ?_
 refine Y.seq (Y.region (Y.ql rfl (aA rfl .c) (Y.nt (Y.seq (Y.seq (Y.region (Y.mv rfl .g1 ?_)))))))
 refine Y.nc rfl .z (Y.fa rfl .z gC (Y.le rfl cF .z ab ac ?_))
 refine Y.cl rfl rfl Tryz.func46 rfl rfl (dX (.t .z) .c .c) .n (fun _ _ hs tr=>xL _ _ _) ?_
 rintro _ _ ⟨rfl,rfl⟩
 refine Y.m .n ?_
 refine Y.ql rfl (fN rfl (.t .z)) (Y.mv rfl .z ?_)
 refine Y.ap .z (fun g3=> ?_) (fun g3=> ?_)
 refine Y.j rfl rfl .z rfl rfl (by decide) rfl ?_
 refine Y.j rfl rfl .g1 rfl rfl (by decide) rfl ?_
 refine Y.j rfl rfl .g2 rfl rfl (by decide) rfl ?_
 refine Y.j rfl rfl .g3 rfl rfl (by decide) rfl ?_
 refine Y.j rfl rfl .g4 rfl rfl (by decide) rfl ?_
 refine Y.j rfl rfl .g5 rfl rfl (by decide) rfl ?_
 refine Y.ql rfl (bO rfl (.t .g6) .c) (Y.nt ?_)
 refine Y.ao (.t .z) ?_
 refine Y.seq (Y.region (Y.er .g14 (Y.ql rfl (aA rfl .c) (Y.nt (Y.ret (Y.r ?_))))))
 refine Y.i (aY rfl .z) .n ?_
 have ai:(1≤x.links∧x.links≤60)∨¬(1≤x.links∧x.links≤60):=Classical.em _;exact⟨by first |(rw [dG (by omega)];done) |(rw [dE ⟨by assumption,by assumption⟩ (by omega)];done) |(rw [dF ⟨by assumption,by assumption⟩ (by omega) (pD (fun j b hj hb=>hallk j b (by omega) hb)) (by rw [List.take_of_length_le (by omega)] at hnd;exact hnd)];done),rfl⟩
 refine Y.qg rfl rfl .z rfl rfl rfl (aV rfl (.t .g8)) ?_
 refine Y.qg rfl rfl .g1 rfl rfl rfl (eB rfl (.t .z)) ?_
 refine Y.qg rfl rfl .g2 rfl rfl rfl (aK rfl (.t .z) (fun _=>hX _ _)) ?_
 refine Y.qg rfl rfl .g3 rfl rfl rfl (aL rfl cF (.t .z) (WS.el ab ac rfl)) ?_
 refine Y.call (fU rfl rfl .g4) rfl (by decide) rfl (bS rfl Tryz.func71 rfl rfl (bT (.t .z))) .n (fun _ _ hs tr=>aK3 _) ?_
 rintro _ _ ⟨rfl,rfl⟩
 refine Y.m .n ?_
 refine Y.qg rfl rfl .g5 rfl rfl rfl (fN rfl (.t .z)) ?_
 refine Y.ql rfl (bW rfl (.t .g6) (.t .z)) (Y.nt ?_)
 refine Y.ad (.t .z) (fun b4=> ?_) (fun b4=> ?_)
 refine Y.seq (Y.region (Y.er .g14 (Y.ql rfl (aA rfl .c) (Y.nt (Y.ret (Y.r ?_))))))
 refine Y.i (aY rfl .z) .n ?_
 have ai:(1≤x.links∧x.links≤60)∨¬(1≤x.links∧x.links≤60):=Classical.em _;exact⟨by first |(rw [dG (by omega)];done) |(rw [dE ⟨by assumption,by assumption⟩ (by omega)];done) |(rw [dF ⟨by assumption,by assumption⟩ (by omega) (pD (fun j b hj hb=>hallk j b (by omega) hb)) (by rw [List.take_of_length_le (by omega)] at hnd;exact hnd)];done),rfl⟩
 refine Y.skip (Y.g (Y.seq (Y.seq ?_)))
 refine Y.dr .z 11 gG ?_
 refine Y.sc (qs 0 9++ [(9,false),(10,true)]) (by kernel_rfl) ?_
 refine Y.dm rfl rfl .z .g15 (Y.dn rfl rfl .z .z (Y.df rfl rfl .z .z dI (Y.de rfl rfl .z fA .z ab ac (Y.dk rfl rfl .z (bM rfl eQ (.t .z)) (Y.dm rfl rfl .z (.s16 .g4) (Y.dn rfl rfl .z .z (Y.df rfl rfl .z .z hX (Y.de rfl rfl .z cF .z ab ac ?_))))))))
 refine Y.call (aE rfl rfl) rfl (by decide) rfl (bS rfl Tryz.func117 rfl rfl (bT (.t .z))) .n (fun _ _ hs tr=>aD9 _ (by omega) (by omega)) ?_
 rintro _ _ ⟨rfl,rfl⟩
 refine Y.m .n ?_
 refine Y.sk .z ?_
 refine Y.dk rfl rfl .z (cU rfl (.t .g5) (.t .z)) (Y.aa ?_)
 refine Y.ag (by kernel_rfl) ?_
 refine Y.g ?_
 refine Y.ad (.t .z) (fun b5=> ?_) (fun b5=> ?_)
 refine Y.seq (Y.region (Y.er (.s16 .g9) (Y.ql rfl (aA rfl .c) (Y.nt (Y.ret (Y.r ?_))))))
 refine Y.i (aY rfl .z) .n ?_
 have ai:(1≤x.links∧x.links≤60)∨¬(1≤x.links∧x.links≤60):=Classical.em _;exact⟨by first |(rw [dG (by omega)];done) |(rw [dE ⟨by assumption,by assumption⟩ (by omega)];done) |(rw [dF ⟨by assumption,by assumption⟩ (by omega) (pD (fun j b hj hb=>hallk j b (by omega) hb)) (by rw [List.take_of_length_le (by omega)] at hnd;exact hnd)];done),rfl⟩
 refine Y.skip (Y.g (Y.seq (Y.seq (Y.region (Y.ql rfl (aA rfl .c) (Y.nt (Y.block ?_)))))))
 refine Y.aj (γ:=Nat) (fun k=> [(3,.int .i64 (k:Int)),(0,.pointer (some ah))]) (fun k=> []) (fun k=>k≤x.blocks.length∧∀j b,j<k→x.blocks[j]? =some b→0≤b∧b≤19) (fun k=>x.blocks.length - k) 0 ⟨Nat.zero_le _,eV (q:=fun _ b=>(0:Int)≤b∧b≤19)⟩ (.c .z (.c (.s16 .g11) .n)) (fun _ h=>h) ?_
 rintro k ⟨hk,hallk⟩
 refine Y.seq (Y.seq (Y.region (Y.mv rfl .z (Y.mv rfl .g2 (Y.nc rfl .z (Y.fa rfl .z dI (Y.le rfl fA .z ab ac (Y.ql rfl (bM rfl eQ (.t .z)) ?_))))))))
 refine Y.ql rfl (dJ rfl (.t .g5) (.t .z)) (Y.nt ?_)
 refine Y.u (.t .z) (fun b6=> ?_) (fun b6=> ?_)
 refine Y.skip (Y.g (Y.seq (Y.block (Y.seq (Y.region (Y.mv rfl .g8 (Y.nc rfl .z (Y.fa rfl .z dI ?_))))))))
 refine Y.le rfl fA .z ab ac (Y.mv rfl .g11 ?_)
 obtain⟨br,aj,ak⟩:=ad (by omega)
 subst aj
 obtain⟨x8,aw⟩:=aI (xs:=x.blocks) (j:=k) (by omega)
 obtain⟨bh,ax,ay,az⟩:=ak.elem aw
 obtain⟨rfl,bs⟩:=ax
 refine Y.ql rfl (aC (j:=k) rfl eQ jQ (.t .g1) (.t .z) rfl (by omega)) ?_
 refine Y.ql rfl (aL rfl cF (.t .z) (WS.j ay az rfl)) ?_
 refine Y.cl rfl rfl Tryz.func46 rfl rfl (dX (.t .z) .c .c) .n (fun _ _ hs tr=>xL _ _ _) ?_
 rintro _ _ ⟨rfl,rfl⟩
 refine Y.m .n ?_
 refine Y.ql rfl (fN rfl (.t .z)) (Y.nt ?_)
 refine Y.ad (.t .z) (fun a7=> ?_) (fun a7=> ?_)
 refine Y.seq (Y.region (Y.ql rfl (aA rfl .c) (Y.nt (Y.ret (Y.y (Y.r (Y.r ?_)))))))
 refine Y.y (Y.r ?_)
 refine Y.i (aY rfl .z) .n ?_
 have ai:(1≤x.links∧x.links≤60)∨¬(1≤x.links∧x.links≤60):=Classical.em _;exact⟨by first |(rw [dG (by omega)];done) |(rw [dE ⟨by assumption,by assumption⟩ (by omega)];done) |(rw [dK ⟨by assumption,by assumption⟩ (by omega) (aEb aw (by assumption))];done) |(rw [dF ⟨by assumption,by assumption⟩ (by omega) (pD (fun j b hj hb=>hallk j b (by omega) hb)) (by rw [List.take_of_length_le (by omega)] at hnd;exact hnd)];done),rfl⟩
 refine Y.skip (Y.ac (Y.g (Y.region (Y.mv rfl .g16 ?_))))
 refine Y.ql rfl (bQ (c:=((k+1:Nat):Int)) rfl (.t .z) .c (wr (by omega) (by omega) (by omega))) ?_
 refine Y.er (.s16 .g2) (Y.as rfl .z (Y.nil ?_))
 refine Y.ae (k+1) ⟨by omega,eM (q:=fun _ b=>(0:Int)≤b∧b≤19) hallk aw a7⟩ (by first | omega |(dsimp only;omega)) (.c .z (.c (.s16 .g3) .n)) (fun _ h=>h)
 refine Y.exit (Y.ab (Y.ab (Y.ai (Y.g (Y.seq (Y.seq (Y.region (Y.ql rfl (aA rfl .c) ?_))))))))
 refine Y.nt (Y.block ?_)
 refine Y.aj (γ:=Nat) (fun i=> [(4,.int .i64 (i:Int)),(0,.pointer (some ah))]) (fun i=> []) (fun i=>i≤x.blocks.length∧(x.blocks.take i).Nodup) (fun i=>x.blocks.length - i) 0 ⟨Nat.zero_le _,List.Pairwise.nil⟩ (.c .z (.c .g9 .n)) (fun _ h=>h) ?_
 rintro i ⟨hi,hnd⟩
 refine Y.seq (Y.seq (Y.region (Y.mv rfl .z (Y.mv rfl .g2 (Y.nc rfl .z (Y.fa rfl .z dI (Y.le rfl fA .z ab ac (Y.ql rfl (bM rfl eQ (.t .z)) ?_))))))))
 refine Y.ql rfl (dJ rfl (.t .g5) (.t .z)) (Y.nt ?_)
 refine Y.u (.t .z) (fun bi=> ?_) (fun bi=> ?_)
 refine Y.skip (Y.g (Y.seq (Y.block (Y.seq (Y.region (Y.ql rfl (aA rfl .c) (Y.nt ?_)))))))
 refine Y.block ?_
 obtain⟨bj,ae,aa⟩:=ad (by omega)
 subst ae
 obtain⟨ar,af⟩:=aI (xs:=x.blocks) (j:=i) (by omega)
 obtain⟨a8,al,am,an⟩:=aa.elem af
 obtain⟨rfl,bk⟩:=al
 refine Y.aj (γ:=Nat) (fun j=> [(5,.int .i64 (j:Int)),(4,.int .i64 (i:Int)),(0,.pointer (some ah))]) (fun j=> []) (fun j=>j≤i∧∀r y,r<j→x.blocks[r]? =some y→¬y=ar) (fun j=>i - j) 0 ⟨Nat.zero_le _,eV (q:=fun _ y=>¬y=ar)⟩ (.c .z (.c .g8 (.c .g9 .n))) (fun _ h=>h) ?_
 rintro j ⟨hj,hallj⟩
 refine Y.seq (Y.seq (Y.region (Y.mv rfl .z (Y.mv rfl .g2 (Y.ql rfl (dJ rfl (.t .g1) (.t .z)) (Y.nt ?_))))))
 refine Y.u (.t .z) (fun bm=> ?_) (fun bm=> ?_)
 refine Y.skip (Y.g (Y.seq (Y.block (Y.seq ?_))))
 refine Y.dr .z 15 gG ?_
 refine Y.sc (qs 0 15) (by kernel_rfl) ?_
 refine Y.dm rfl rfl .z .g5 (Y.dn rfl rfl .z .z (Y.df rfl rfl .z .z dI (Y.de rfl rfl .z fA .z ab ac (Y.dm rfl rfl .z .g7 ?_))))
 obtain⟨bn,ag⟩:=aI (xs:=x.blocks) (j:=j) (by omega)
 obtain⟨a9,ao,ap,aq⟩:=aa.elem ag
 obtain⟨rfl,bo⟩:=ao
 refine Y.dk rfl rfl .z (aC (j:=j) rfl eQ jQ (.t .g1) (.t .z) rfl (by omega)) ?_
 refine Y.dk rfl rfl .z (aL rfl cF (.t .z) (WS.j ap aq rfl)) (Y.dm rfl rfl .z .g12 (Y.dn rfl rfl .z .z (Y.df rfl rfl .z .z dI (Y.de rfl rfl .z fA .z ab ac (Y.dm rfl rfl .z .g15 ?_)))))
 refine Y.dk rfl rfl .z (aC (j:=i) rfl eQ jQ (.t .g1) (.t .z) rfl (by omega)) ?_
 refine Y.dk rfl rfl .z (aL rfl cF (.t .z) (WS.j am an rfl)) (Y.dk rfl rfl .z (bZ rfl (.t .g7) (.t .z)) (Y.aa ?_))
 refine Y.ag (by kernel_rfl) ?_
 refine Y.g ?_
 refine Y.u (.t .z) (fun bp=> ?_) (fun bp=> ?_)
 refine Y.seq (Y.region (Y.ql rfl (aA rfl .c) (Y.nt (Y.ret (Y.y (Y.r (Y.r ?_)))))))
 refine Y.y (Y.y (Y.r (Y.r (Y.y (Y.r ?_)))))
 refine Y.i (aY rfl .z) .n ?_
 have ai:(1≤x.links∧x.links≤60)∨¬(1≤x.links∧x.links≤60):=Classical.em _;exact⟨by first |(rw [dG (by omega)];done) |(rw [dE ⟨by assumption,by assumption⟩ (by omega)];done) |(rw [wC ⟨by assumption,by assumption⟩ (by omega) (pD (fun j b hj hb=>hallk j b (by omega) hb)) (zY af ((show bn=ar by assumption) ▸ aCh ag (by omega)))];done) |(rw [dF ⟨by assumption,by assumption⟩ (by omega) (pD (fun j b hj hb=>hallk j b (by omega) hb)) (by rw [List.take_of_length_le (by omega)] at hnd;exact hnd)];done),rfl⟩
 refine Y.skip (Y.ac (Y.g (Y.region (Y.mv rfl (.s16 .g2) ?_))))
 refine Y.ql rfl (bQ (c:=((j+1:Nat):Int)) rfl (.t .z) .c (wr (by omega) (by omega) (by omega))) ?_
 refine Y.er (.s16 .g4) (Y.as rfl .z (Y.nil ?_))
 refine Y.ae (j+1) ⟨by omega,eM (q:=fun _ y=>¬y=ar) hallj ag (by assumption)⟩ (by first | omega |(dsimp only;omega)) (.c .z (.c (.s16 .g5) (.c (.s16 .g6) .n))) (fun _ h=>h)
 refine Y.exit (Y.ab (Y.ab (Y.ai (Y.ac (Y.g (Y.region (Y.mv rfl .g4 ?_)))))))
 refine Y.ql rfl (bQ (c:=((i+1:Nat):Int)) rfl (.t .z) .c (wr (by omega) (by omega) (by omega))) ?_
 refine Y.er .g6 (Y.as rfl .z (Y.nil ?_))
 refine Y.ae (i+1) ⟨by omega,aDz hnd af (uH (fun j y hj hy=>hallj j y (by omega) hy))⟩ (by first | omega |(dsimp only;omega)) (.c .z (.c .g7 .n)) (fun _ h=>h)
 refine Y.exit (Y.ab (Y.ab (Y.ai (Y.g (Y.seq (Y.region (Y.ql rfl (aA rfl .c) (Y.nil ?_))))))))
 refine Y.g (Y.ret ?_)
 refine Y.i (aY rfl .z) .n ?_
 have ai:(1≤x.links∧x.links≤60)∨¬(1≤x.links∧x.links≤60):=Classical.em _;exact⟨by first |(rw [dG (by omega)];done) |(rw [dE ⟨by assumption,by assumption⟩ (by omega)];done) |(rw [dF ⟨by assumption,by assumption⟩ (by omega) (pD (fun j b hj hb=>hallk j b (by omega) hb)) (by rw [List.take_of_length_le (by omega)] at hnd;exact hnd)];done),rfl⟩

theorem zI {w0:World}{S0:Bs}{x:aF}{ar:List Value} (h0:bD.ro w0 (FF w0 S0) x ar):
    Calls Tryz.prog 153 #[.agg ar.toArray] w0 (aJ w0 S0 (fun r l=>r= .int .i64 (fW x)∧l= [])):=by
 obtain⟨a2,a3,rfl,aa,ap⟩:=cK h0
 obtain⟨ad,ac,rfl,au,av,aw,ak⟩:=aH aa
 obtain⟨ae,af,rfl,ax,ay,az,a0⟩:=aH ap
 refine Y.enter (N:=43) Tryz.func153 rfl rfl (by simp) [(0,.agg #[.int .i64 x.kind,.int .i64 x.links,.int .i64 x.size,.slice ad x.blocks.length ac,.slice ae x.ents.length af])] (by simp) (l0:= []) trivial ?_
 refine Y.seq (Y.region ?_)
 refine Y.el rfl (fT (cs:= [.int .i64 x.kind,.int .i64 x.links,.int .i64 x.size,.slice ad x.blocks.length ac,.slice ae x.ents.length af]) (n:=5) rfl (.t .z) rfl rfl) ?_
 rintro _ _ ⟨g3,rfl,rfl⟩
 refine Y.ql rfl (aA rfl .c) (Y.nt ?_)
 refine Y.ay (γ:=Unit) (fun _u=> [(2,.int .i64 0),(1,.pointer (some ⟨g3,0,none⟩))]) (fun _u=> [cM g3 44 5 1 [.int .i64 x.kind,.int .i64 x.links,.int .i64 x.size,.slice ad x.blocks.length ac,.slice ae x.ents.length af]]) (fun _u=>((1≤x.links∧x.links≤60)∧(0≤x.size∧x.size≤32))∧(x.blocks.length:Int)=(x.size+7) / 8∧x.blocks.any (fun b=> !decide (0≤b∧b≤19))=false) ?_ ?_
 refine Y.block (Y.seq (Y.region (Y.fa rfl .g1 gC (Y.ld rfl cF .z .z ?_))))
 refine Y.cl rfl rfl Tryz.func84 rfl rfl (dX (.t .z) .c .c) .n (fun _ _ hs tr=>yY _ _ _) ?_
 rintro _ _ ⟨rfl,rfl⟩
 refine Y.m .n ?_
 refine Y.ql rfl (fN rfl (.t .z)) (Y.mv rfl .z ?_)
 refine Y.ap .z (fun g4=> ?_) (fun g4=> ?_)
 refine Y.j rfl rfl .z rfl rfl (by decide) rfl ?_
 refine Y.j rfl rfl .g1 rfl rfl (by decide) rfl ?_
 refine Y.j rfl rfl .g2 rfl rfl (by decide) rfl ?_
 refine Y.j rfl rfl .g3 rfl rfl (by decide) rfl ?_
 refine Y.ql rfl (bO rfl (.t .g4) .c) (Y.as rfl .z (Y.nt ?_))
 refine Y.ao (.t .z) ?_
 refine Y.seq (Y.region (Y.er .g11 (Y.ql rfl (aA rfl .c) (Y.nt (Y.ret (Y.y (Y.r ?_)))))))
 refine Y.i (aY rfl .z) .n ?_
 have ab:(1≤x.links∧x.links≤60)∨¬(1≤x.links∧x.links≤60):=Classical.em _;exact⟨by first |(rw [dG (by omega)];done) |(rw [dE ⟨by assumption,by assumption⟩ (by omega)];done) |(rw [dK ⟨by assumption,by assumption⟩ (by omega) (by assumption)];done) |(rw [dF ⟨by assumption,by assumption⟩ (by omega) (by assumption) (by rw [List.take_of_length_le (by omega)] at hnd;exact hnd)];done),rfl⟩
 refine Y.qg rfl rfl .z rfl rfl rfl (aK rfl (.t .g6) (fun _=>hX _ _)) ?_
 refine Y.qg rfl rfl .g1 rfl rfl rfl (aL rfl cF (.t .z) (WS.g .z rfl)) ?_
 refine Y.call (fU rfl rfl .g2) rfl (by decide) rfl (bS rfl Tryz.func84 rfl rfl (dX (.t .z) .c .c)) .n (fun _ _ hs tr=>yY _ _ _) ?_
 rintro _ _ ⟨rfl,rfl⟩
 refine Y.m .n ?_
 refine Y.qg rfl rfl .g3 rfl rfl rfl (fN rfl (.t .z)) ?_
 refine Y.ql rfl (bW rfl (.t .g4) (.t .z)) (Y.as rfl .z (Y.nt ?_))
 refine Y.ad (.t .z) (fun b5=> ?_) (fun b5=> ?_)
 refine Y.seq (Y.region (Y.er .g11 (Y.ql rfl (aA rfl .c) (Y.nt (Y.ret (Y.y (Y.r ?_)))))))
 refine Y.i (aY rfl .z) .n ?_
 have ab:(1≤x.links∧x.links≤60)∨¬(1≤x.links∧x.links≤60):=Classical.em _;exact⟨by first |(rw [dG (by omega)];done) |(rw [dE ⟨by assumption,by assumption⟩ (by omega)];done) |(rw [dK ⟨by assumption,by assumption⟩ (by omega) (by assumption)];done) |(rw [dF ⟨by assumption,by assumption⟩ (by omega) (by assumption) (by rw [List.take_of_length_le (by omega)] at hnd;exact hnd)];done),rfl⟩
 refine Y.seq ?_
 refine Y.dr .z 7 gG ?_
 refine Y.sc [] (by kernel_rfl) ?_
 refine Y.aa ?_
 refine Y.au (i:=0) (j:=3) (by kernel_rfl) ?_ ?_
 refine Y.q (aE rfl rfl) rfl (by decide) rfl (aK rfl (.t .g12) (fun _=>dI _ _)) ?_
 refine Y.sk .z ?_
 refine Y.aa ?_
 refine Y.sc [] (by kernel_rfl) ?_
 refine Y.aa ?_
 refine Y.au (i:=1) (j:=3) (by kernel_rfl) ?_ ?_
 refine Y.q (aE rfl rfl) rfl (by decide) rfl (aL rfl fA (.t .z) (WS.g .z rfl)) ?_
 refine Y.sk .z ?_
 refine Y.aa ?_
 refine Y.sc [] (by kernel_rfl) ?_
 refine Y.aa ?_
 refine Y.au (i:=2) (j:=3) (by kernel_rfl) ?_ ?_
 refine Y.call (aE rfl rfl) rfl (by decide) rfl (bS rfl Tryz.func149 rfl rfl (bT (.t .z))) .n (fun _ _ hs tr=>sW (tr.ctx aa)) ?_
 rintro _ _ ⟨rfl,rfl⟩
 refine Y.m .n ?_
 refine Y.sk .z ?_
 refine Y.aa ?_
 refine Y.sc [(3,false),(4,false),(5,false),(6,true),(7,false)] (by kernel_rfl) ?_
 refine Y.q (aE rfl rfl) rfl (by decide) rfl (aK rfl (.t .g15) (fun _=>hX _ _)) ?_
 refine Y.sk .z ?_
 refine Y.q (aE rfl rfl) rfl (by decide) rfl (aL rfl cF (.t .z) (WS.g .z rfl)) ?_
 refine Y.sk .z ?_
 refine Y.call (aE rfl rfl) rfl (by decide) rfl (bS rfl Tryz.func119 rfl rfl (bT (.t .z))) .n (fun _ _ hs tr=>sS _ (by omega) (by omega)) ?_
 rintro _ _ ⟨rfl,rfl⟩
 refine Y.m .n ?_
 refine Y.sk .z ?_
 refine Y.dk rfl rfl .z (cU rfl (.t .g3) (.t .z)) ?_
 refine Y.q (aE rfl rfl) rfl (by decide) rfl (aA rfl (.t .z)) ?_
 refine Y.sl rfl ?_
 refine Y.aa ?_
 refine Y.ag (by kernel_rfl) ?_
 refine Y.g ?_
 refine Y.ad (.t .z) (fun b6=> ?_) (fun b6=> ?_)
 refine Y.seq (Y.region (Y.er (.s16 .g3) (Y.ql rfl (aA rfl .c) (Y.nt (Y.ret (Y.y (Y.r ?_)))))))
 refine Y.i (aY rfl .z) .n ?_
 have ab:(1≤x.links∧x.links≤60)∨¬(1≤x.links∧x.links≤60):=Classical.em _;exact⟨by first |(rw [dG (by omega)];done) |(rw [dE ⟨by assumption,by assumption⟩ (by omega)];done) |(rw [dK ⟨by assumption,by assumption⟩ (by omega) (by assumption)];done) |(rw [dF ⟨by assumption,by assumption⟩ (by omega) (by assumption) (by rw [List.take_of_length_le (by omega)] at hnd;exact hnd)];done),rfl⟩
 refine Y.seq (Y.region (Y.fa rfl (.s16 .g4) dI (Y.ld rfl fA .z .z ?_)))
 refine Y.cl rfl rfl Tryz.func108 rfl rfl (aX (.t .z) .f) .n (fun _ _ hs tr=>sY (tr.ctx aa) Tryz.func170 rfl rfl (fun w2 S2 h2 x=>sR x)) ?_
 rintro _ _ ⟨rfl,rfl⟩
 refine Y.m .n ?_
 refine Y.as rfl .z (Y.nt ?_)
 refine Y.cond (.t .z) (fun b7=> ?_) (fun b7=> ?_)
 refine Y.seq (Y.region (Y.er (.s16 .g7) (Y.ql rfl (aA rfl .c) (Y.nt (Y.ret (Y.y (Y.r ?_)))))))
 refine Y.i (aY rfl .z) .n ?_
 have ab:(1≤x.links∧x.links≤60)∨¬(1≤x.links∧x.links≤60):=Classical.em _;exact⟨by first |(rw [dG (by omega)];done) |(rw [dE ⟨by assumption,by assumption⟩ (by omega)];done) |(rw [dK ⟨by assumption,by assumption⟩ (by omega) (by assumption)];done) |(rw [dF ⟨by assumption,by assumption⟩ (by omega) (by assumption) (by rw [List.take_of_length_le (by omega)] at hnd;exact hnd)];done),rfl⟩
 refine Y.skip (Y.ac ?_)
 exact Y.aq () ⟨⟨by assumption,by assumption⟩,by omega,by assumption⟩ (.c (.s16 .g7) (.c (.s16 .g8) .n)) (fun _ h=>h.sel (.c .z .n))
 refine Y.q (aE rfl rfl) rfl (by decide) rfl (aK rfl (.t .g14) (fun _=>hX _ _)) ?_
 refine Y.sk .z ?_
 refine Y.aa ?_
 refine Y.sc [] (by kernel_rfl) ?_
 refine Y.aa ?_
 refine Y.au (i:=2) (j:=4) (by kernel_rfl) ?_ ?_
 refine Y.call (aE rfl rfl) rfl (by decide) rfl (bS rfl Tryz.func149 rfl rfl (bT (.t .g1))) .n (fun _ _ hs tr=>sW (tr.ctx aa)) ?_
 rintro _ _ ⟨rfl,rfl⟩
 refine Y.m .n ?_
 refine Y.sk .z ?_
 refine Y.aa ?_
 refine Y.sc [(4,false),(5,false),(6,true),(7,false)] (by kernel_rfl) ?_
 refine Y.q (aE rfl rfl) rfl (by decide) rfl (aL rfl cF (.t .g1) (WS.g .z rfl)) ?_
 refine Y.sk .z ?_
 refine Y.call (aE rfl rfl) rfl (by decide) rfl (bS rfl Tryz.func119 rfl rfl (bT (.t .z))) .n (fun _ _ hs tr=>sS _ (by omega) (by omega)) ?_
 rintro _ _ ⟨rfl,rfl⟩
 refine Y.m .n ?_
 refine Y.sk .z ?_
 refine Y.dk rfl rfl .z (cU rfl (.t .g2) (.t .z)) ?_
 refine Y.q (aE rfl rfl) rfl (by decide) rfl (aA rfl (.t .z)) ?_
 refine Y.sl rfl ?_
 refine Y.aa ?_
 refine Y.ag (by kernel_rfl) ?_
 refine Y.g ?_
 refine Y.ad (.t .z) (fun b8=> ?_) (fun b8=> ?_)
 refine Y.seq (Y.region (Y.er (.s16 .g3) (Y.ql rfl (aA rfl .c) (Y.nt (Y.ret (Y.y (Y.r ?_)))))))
 refine Y.i (aY rfl .z) .n ?_
 have ab:(1≤x.links∧x.links≤60)∨¬(1≤x.links∧x.links≤60):=Classical.em _;exact⟨by first |(rw [dG (by omega)];done) |(rw [dE ⟨by assumption,by assumption⟩ (by omega)];done) |(rw [dK ⟨by assumption,by assumption⟩ (by omega) (by assumption)];done) |(rw [dF ⟨by assumption,by assumption⟩ (by omega) (by assumption) (by rw [List.take_of_length_le (by omega)] at hnd;exact hnd)];done),rfl⟩
 refine Y.seq (Y.region (Y.fa rfl (.s16 .g4) dI (Y.ld rfl fA .z .z ?_)))
 refine Y.cl rfl rfl Tryz.func108 rfl rfl (aX (.t .z) .f) .n (fun _ _ hs tr=>sY (tr.ctx aa) Tryz.func170 rfl rfl (fun w2 S2 h2 x=>sR x)) ?_
 rintro _ _ ⟨rfl,rfl⟩
 refine Y.m .n ?_
 refine Y.as rfl .z (Y.nt ?_)
 refine Y.cond (.t .z) (fun b9=> ?_) (fun b9=> ?_)
 refine Y.seq (Y.region (Y.er (.s16 .g7) (Y.ql rfl (aA rfl .c) (Y.nt (Y.ret (Y.y (Y.r ?_)))))))
 refine Y.i (aY rfl .z) .n ?_
 have ab:(1≤x.links∧x.links≤60)∨¬(1≤x.links∧x.links≤60):=Classical.em _;exact⟨by first |(rw [dG (by omega)];done) |(rw [dE ⟨by assumption,by assumption⟩ (by omega)];done) |(rw [dK ⟨by assumption,by assumption⟩ (by omega) (by assumption)];done) |(rw [dF ⟨by assumption,by assumption⟩ (by omega) (by assumption) (by rw [List.take_of_length_le (by omega)] at hnd;exact hnd)];done),rfl⟩
 refine Y.skip (Y.ac ?_)
 exact Y.aq () ⟨⟨by assumption,by assumption⟩,by omega,by assumption⟩ (.c (.s16 .g7) (.c (.s16 .g8) .n)) (fun _ h=>h.sel (.c .z .n))
 refine Y.q (aE rfl rfl) rfl (by decide) rfl (aL rfl cF (.t .z) (WS.g .z rfl)) ?_
 refine Y.sk .z ?_
 refine Y.aa ?_
 refine Y.sc [(2,false),(5,false),(6,true),(7,false)] (by kernel_rfl) ?_
 refine Y.call (aE rfl rfl) rfl (by decide) rfl (bS rfl Tryz.func149 rfl rfl (bT (.t .g2))) .n (fun _ _ hs tr=>sW (tr.ctx aa)) ?_
 rintro _ _ ⟨rfl,rfl⟩
 refine Y.m .n ?_
 refine Y.sk .z ?_
 refine Y.call (aE rfl rfl) rfl (by decide) rfl (bS rfl Tryz.func119 rfl rfl (bT (.t .g1))) .n (fun _ _ hs tr=>sS _ (by omega) (by omega)) ?_
 rintro _ _ ⟨rfl,rfl⟩
 refine Y.m .n ?_
 refine Y.sk .z ?_
 refine Y.dk rfl rfl .z (cU rfl (.t .g1) (.t .z)) ?_
 refine Y.q (aE rfl rfl) rfl (by decide) rfl (aA rfl (.t .z)) ?_
 refine Y.sl rfl ?_
 refine Y.aa ?_
 refine Y.ag (by kernel_rfl) ?_
 refine Y.g ?_
 refine Y.ad (.t .z) (fun a4=> ?_) (fun a4=> ?_)
 refine Y.seq (Y.region (Y.er (.s16 .g3) (Y.ql rfl (aA rfl .c) (Y.nt (Y.ret (Y.y (Y.r ?_)))))))
 refine Y.i (aY rfl .z) .n ?_
 have ab:(1≤x.links∧x.links≤60)∨¬(1≤x.links∧x.links≤60):=Classical.em _;exact⟨by first |(rw [dG (by omega)];done) |(rw [dE ⟨by assumption,by assumption⟩ (by omega)];done) |(rw [dK ⟨by assumption,by assumption⟩ (by omega) (by assumption)];done) |(rw [dF ⟨by assumption,by assumption⟩ (by omega) (by assumption) (by rw [List.take_of_length_le (by omega)] at hnd;exact hnd)];done),rfl⟩
 refine Y.seq (Y.region (Y.fa rfl (.s16 .g4) dI (Y.ld rfl fA .z .z ?_)))
 refine Y.cl rfl rfl Tryz.func108 rfl rfl (aX (.t .z) .f) .n (fun _ _ hs tr=>sY (tr.ctx aa) Tryz.func170 rfl rfl (fun w2 S2 h2 x=>sR x)) ?_
 rintro _ _ ⟨rfl,rfl⟩
 refine Y.m .n ?_
 refine Y.as rfl .z (Y.nt ?_)
 refine Y.cond (.t .z) (fun a5=> ?_) (fun a5=> ?_)
 refine Y.seq (Y.region (Y.er (.s16 .g7) (Y.ql rfl (aA rfl .c) (Y.nt (Y.ret (Y.y (Y.r ?_)))))))
 refine Y.i (aY rfl .z) .n ?_
 have ab:(1≤x.links∧x.links≤60)∨¬(1≤x.links∧x.links≤60):=Classical.em _;exact⟨by first |(rw [dG (by omega)];done) |(rw [dE ⟨by assumption,by assumption⟩ (by omega)];done) |(rw [dK ⟨by assumption,by assumption⟩ (by omega) (by assumption)];done) |(rw [dF ⟨by assumption,by assumption⟩ (by omega) (by assumption) (by rw [List.take_of_length_le (by omega)] at hnd;exact hnd)];done),rfl⟩
 refine Y.skip (Y.ac ?_)
 exact Y.aq () ⟨⟨by assumption,by assumption⟩,by omega,by assumption⟩ (.c (.s16 .g7) (.c (.s16 .g8) .n)) (fun _ h=>h.sel (.c .z .n))
 refine Y.q (aE rfl rfl) rfl (by decide) rfl (aK rfl (.t .g13) (fun _=>hX _ _)) ?_
 refine Y.sk .z ?_
 refine Y.aa ?_
 refine Y.sc [] (by kernel_rfl) ?_
 refine Y.aa ?_
 refine Y.au (i:=1) (j:=4) (by kernel_rfl) ?_ ?_
 refine Y.q (aE rfl rfl) rfl (by decide) rfl (aL rfl fA (.t .g1) (WS.g .z rfl)) ?_
 refine Y.sk .z ?_
 refine Y.aa ?_
 refine Y.sc [] (by kernel_rfl) ?_
 refine Y.aa ?_
 refine Y.au (i:=2) (j:=4) (by kernel_rfl) ?_ ?_
 refine Y.call (aE rfl rfl) rfl (by decide) rfl (bS rfl Tryz.func149 rfl rfl (bT (.t .z))) .n (fun _ _ hs tr=>sW (tr.ctx aa)) ?_
 rintro _ _ ⟨rfl,rfl⟩
 refine Y.m .n ?_
 refine Y.sk .z ?_
 refine Y.aa ?_
 refine Y.sc [(4,false),(5,false),(6,true),(7,false)] (by kernel_rfl) ?_
 refine Y.q (aE rfl rfl) rfl (by decide) rfl (aL rfl cF (.t .g2) (WS.g .z rfl)) ?_
 refine Y.sk .z ?_
 refine Y.call (aE rfl rfl) rfl (by decide) rfl (bS rfl Tryz.func119 rfl rfl (bT (.t .z))) .n (fun _ _ hs tr=>sS _ (by omega) (by omega)) ?_
 rintro _ _ ⟨rfl,rfl⟩
 refine Y.m .n ?_
 refine Y.sk .z ?_
 refine Y.dk rfl rfl .z (cU rfl (.t .g2) (.t .z)) ?_
 refine Y.q (aE rfl rfl) rfl (by decide) rfl (aA rfl (.t .z)) ?_
 refine Y.sl rfl ?_
 refine Y.aa ?_
 refine Y.ag (by kernel_rfl) ?_
 refine Y.g ?_
 refine Y.ad (.t .z) (fun a6=> ?_) (fun a6=> ?_)
 refine Y.seq (Y.region (Y.er (.s16 .g3) (Y.ql rfl (aA rfl .c) (Y.nt (Y.ret (Y.y (Y.r ?_)))))))
 refine Y.i (aY rfl .z) .n ?_
 have ab:(1≤x.links∧x.links≤60)∨¬(1≤x.links∧x.links≤60):=Classical.em _;exact⟨by first |(rw [dG (by omega)];done) |(rw [dE ⟨by assumption,by assumption⟩ (by omega)];done) |(rw [dK ⟨by assumption,by assumption⟩ (by omega) (by assumption)];done) |(rw [dF ⟨by assumption,by assumption⟩ (by omega) (by assumption) (by rw [List.take_of_length_le (by omega)] at hnd;exact hnd)];done),rfl⟩
 refine Y.seq (Y.region (Y.fa rfl (.s16 .g4) dI (Y.ld rfl fA .z .z ?_)))
 refine Y.cl rfl rfl Tryz.func108 rfl rfl (aX (.t .z) .f) .n (fun _ _ hs tr=>sY (tr.ctx aa) Tryz.func170 rfl rfl (fun w2 S2 h2 x=>sR x)) ?_
 rintro _ _ ⟨rfl,rfl⟩
 refine Y.m .n ?_
 refine Y.as rfl .z (Y.nt ?_)
 refine Y.cond (.t .z) (fun a7=> ?_) (fun a7=> ?_)
 refine Y.seq (Y.region (Y.er (.s16 .g7) (Y.ql rfl (aA rfl .c) (Y.nt (Y.ret (Y.y (Y.r ?_)))))))
 refine Y.i (aY rfl .z) .n ?_
 have ab:(1≤x.links∧x.links≤60)∨¬(1≤x.links∧x.links≤60):=Classical.em _;exact⟨by first |(rw [dG (by omega)];done) |(rw [dE ⟨by assumption,by assumption⟩ (by omega)];done) |(rw [dK ⟨by assumption,by assumption⟩ (by omega) (by assumption)];done) |(rw [dF ⟨by assumption,by assumption⟩ (by omega) (by assumption) (by rw [List.take_of_length_le (by omega)] at hnd;exact hnd)];done),rfl⟩
 refine Y.skip (Y.ac ?_)
 exact Y.aq () ⟨⟨by assumption,by assumption⟩,by omega,by assumption⟩ (.c (.s16 .g7) (.c (.s16 .g8) .n)) (fun _ h=>h.sel (.c .z .n))
 refine Y.q (aE rfl rfl) rfl (by decide) rfl (aL rfl cF (.t .g1) (WS.g .z rfl)) ?_
 refine Y.sk .z ?_
 refine Y.aa ?_
 refine Y.sc [(2,false),(5,false),(6,true),(7,false)] (by kernel_rfl) ?_
 refine Y.call (aE rfl rfl) rfl (by decide) rfl (bS rfl Tryz.func149 rfl rfl (bT (.t .g1))) .n (fun _ _ hs tr=>sW (tr.ctx aa)) ?_
 rintro _ _ ⟨rfl,rfl⟩
 refine Y.m .n ?_
 refine Y.sk .z ?_
 refine Y.call (aE rfl rfl) rfl (by decide) rfl (bS rfl Tryz.func119 rfl rfl (bT (.t .g1))) .n (fun _ _ hs tr=>sS _ (by omega) (by omega)) ?_
 rintro _ _ ⟨rfl,rfl⟩
 refine Y.m .n ?_
 refine Y.sk .z ?_
 refine Y.dk rfl rfl .z (cU rfl (.t .g1) (.t .z)) ?_
 refine Y.q (aE rfl rfl) rfl (by decide) rfl (aA rfl (.t .z)) ?_
 refine Y.sl rfl ?_
 refine Y.aa ?_
 refine Y.ag (by kernel_rfl) ?_
 refine Y.g ?_
 refine Y.ad (.t .z) (fun a8=> ?_) (fun a8=> ?_)
 refine Y.seq (Y.region (Y.er (.s16 .g3) (Y.ql rfl (aA rfl .c) (Y.nt (Y.ret (Y.y (Y.r ?_)))))))
 refine Y.i (aY rfl .z) .n ?_
 have ab:(1≤x.links∧x.links≤60)∨¬(1≤x.links∧x.links≤60):=Classical.em _;exact⟨by first |(rw [dG (by omega)];done) |(rw [dE ⟨by assumption,by assumption⟩ (by omega)];done) |(rw [dK ⟨by assumption,by assumption⟩ (by omega) (by assumption)];done) |(rw [dF ⟨by assumption,by assumption⟩ (by omega) (by assumption) (by rw [List.take_of_length_le (by omega)] at hnd;exact hnd)];done),rfl⟩
 refine Y.seq (Y.region (Y.fa rfl (.s16 .g4) dI (Y.ld rfl fA .z .z ?_)))
 refine Y.cl rfl rfl Tryz.func108 rfl rfl (aX (.t .z) .f) .n (fun _ _ hs tr=>sY (tr.ctx aa) Tryz.func170 rfl rfl (fun w2 S2 h2 x=>sR x)) ?_
 rintro _ _ ⟨rfl,rfl⟩
 refine Y.m .n ?_
 refine Y.as rfl .z (Y.nt ?_)
 refine Y.cond (.t .z) (fun a9=> ?_) (fun a9=> ?_)
 refine Y.seq (Y.region (Y.er (.s16 .g7) (Y.ql rfl (aA rfl .c) (Y.nt (Y.ret (Y.y (Y.r ?_)))))))
 refine Y.i (aY rfl .z) .n ?_
 have ab:(1≤x.links∧x.links≤60)∨¬(1≤x.links∧x.links≤60):=Classical.em _;exact⟨by first |(rw [dG (by omega)];done) |(rw [dE ⟨by assumption,by assumption⟩ (by omega)];done) |(rw [dK ⟨by assumption,by assumption⟩ (by omega) (by assumption)];done) |(rw [dF ⟨by assumption,by assumption⟩ (by omega) (by assumption) (by rw [List.take_of_length_le (by omega)] at hnd;exact hnd)];done),rfl⟩
 refine Y.skip (Y.ac ?_)
 exact Y.aq () ⟨⟨by assumption,by assumption⟩,by omega,by assumption⟩ (.c (.s16 .g7) (.c (.s16 .g8) .n)) (fun _ h=>h.sel (.c .z .n))
 refine Y.q (aE rfl rfl) rfl (by decide) rfl (aL rfl cF (.t .z) (WS.g .z rfl)) ?_
 refine Y.sk .z ?_
 refine Y.aa ?_
 refine Y.sc [(1,false),(2,false),(5,false),(6,true),(7,false)] (by kernel_rfl) ?_
 refine Y.q (aE rfl rfl) rfl (by decide) rfl (aL rfl fA (.t .g2) (WS.g .z rfl)) ?_
 refine Y.sk .z ?_
 refine Y.call (aE rfl rfl) rfl (by decide) rfl (bS rfl Tryz.func149 rfl rfl (bT (.t .z))) .n (fun _ _ hs tr=>sW (tr.ctx aa)) ?_
 rintro _ _ ⟨rfl,rfl⟩
 refine Y.m .n ?_
 refine Y.sk .z ?_
 refine Y.call (aE rfl rfl) rfl (by decide) rfl (bS rfl Tryz.func119 rfl rfl (bT (.t .g2))) .n (fun _ _ hs tr=>sS _ (by omega) (by omega)) ?_
 rintro _ _ ⟨rfl,rfl⟩
 refine Y.m .n ?_
 refine Y.sk .z ?_
 refine Y.dk rfl rfl .z (cU rfl (.t .g1) (.t .z)) ?_
 refine Y.q (aE rfl rfl) rfl (by decide) rfl (aA rfl (.t .z)) ?_
 refine Y.sl rfl ?_
 refine Y.aa ?_
 refine Y.ag (by kernel_rfl) ?_
 refine Y.g ?_
 refine Y.ad (.t .z) (fun ba=> ?_) (fun ba=> ?_)
 refine Y.seq (Y.region (Y.er (.s16 .g3) (Y.ql rfl (aA rfl .c) (Y.nt (Y.ret (Y.y (Y.r ?_)))))))
 refine Y.i (aY rfl .z) .n ?_
 have ab:(1≤x.links∧x.links≤60)∨¬(1≤x.links∧x.links≤60):=Classical.em _;exact⟨by first |(rw [dG (by omega)];done) |(rw [dE ⟨by assumption,by assumption⟩ (by omega)];done) |(rw [dK ⟨by assumption,by assumption⟩ (by omega) (by assumption)];done) |(rw [dF ⟨by assumption,by assumption⟩ (by omega) (by assumption) (by rw [List.take_of_length_le (by omega)] at hnd;exact hnd)];done),rfl⟩
 refine Y.seq (Y.region (Y.fa rfl (.s16 .g4) dI (Y.ld rfl fA .z .z ?_)))
 refine Y.cl rfl rfl Tryz.func108 rfl rfl (aX (.t .z) .f) .n (fun _ _ hs tr=>sY (tr.ctx aa) Tryz.func170 rfl rfl (fun w2 S2 h2 x=>sR x)) ?_
 rintro _ _ ⟨rfl,rfl⟩
 refine Y.m .n ?_
 refine Y.as rfl .z (Y.nt ?_)
 refine Y.cond (.t .z) (fun bb=> ?_) (fun bb=> ?_)
 refine Y.seq (Y.region (Y.er (.s16 .g7) (Y.ql rfl (aA rfl .c) (Y.nt (Y.ret (Y.y (Y.r ?_)))))))
 refine Y.i (aY rfl .z) .n ?_
 have ab:(1≤x.links∧x.links≤60)∨¬(1≤x.links∧x.links≤60):=Classical.em _;exact⟨by first |(rw [dG (by omega)];done) |(rw [dE ⟨by assumption,by assumption⟩ (by omega)];done) |(rw [dK ⟨by assumption,by assumption⟩ (by omega) (by assumption)];done) |(rw [dF ⟨by assumption,by assumption⟩ (by omega) (by assumption) (by rw [List.take_of_length_le (by omega)] at hnd;exact hnd)];done),rfl⟩
 refine Y.skip (Y.ac ?_)
 exact Y.aq () ⟨⟨by assumption,by assumption⟩,by omega,by assumption⟩ (.c (.s16 .g7) (.c (.s16 .g8) .n)) (fun _ h=>h.sel (.c .z .n))
 refine Y.q (aE rfl rfl) rfl (by decide) rfl (aK rfl (.t .g12) (fun _=>hX _ _)) ?_
 refine Y.sk .z ?_
 refine Y.aa ?_
 refine Y.sc [] (by kernel_rfl) ?_
 refine Y.aa ?_
 refine Y.au (i:=0) (j:=4) (by kernel_rfl) ?_ ?_
 refine Y.q (aE rfl rfl) rfl (by decide) rfl (aK rfl (.t .g13) (fun _=>dI _ _)) ?_
 refine Y.sk .z ?_
 refine Y.aa ?_
 refine Y.sc [] (by kernel_rfl) ?_
 refine Y.aa ?_
 refine Y.au (i:=1) (j:=4) (by kernel_rfl) ?_ ?_
 refine Y.q (aE rfl rfl) rfl (by decide) rfl (aL rfl fA (.t .z) (WS.g .z rfl)) ?_
 refine Y.sk .z ?_
 refine Y.aa ?_
 refine Y.sc [] (by kernel_rfl) ?_
 refine Y.aa ?_
 refine Y.au (i:=2) (j:=4) (by kernel_rfl) ?_ ?_
 refine Y.call (aE rfl rfl) rfl (by decide) rfl (bS rfl Tryz.func149 rfl rfl (bT (.t .z))) .n (fun _ _ hs tr=>sW (tr.ctx aa)) ?_
 rintro _ _ ⟨rfl,rfl⟩
 refine Y.m .n ?_
 refine Y.sk .z ?_
 refine Y.aa ?_
 refine Y.sc [(4,false),(5,false),(6,true),(7,false)] (by kernel_rfl) ?_
 refine Y.q (aE rfl rfl) rfl (by decide) rfl (aL rfl cF (.t .g3) (WS.g .z rfl)) ?_
 refine Y.sk .z ?_
 refine Y.call (aE rfl rfl) rfl (by decide) rfl (bS rfl Tryz.func119 rfl rfl (bT (.t .z))) .n (fun _ _ hs tr=>sS _ (by omega) (by omega)) ?_
 rintro _ _ ⟨rfl,rfl⟩
 refine Y.m .n ?_
 refine Y.sk .z ?_
 refine Y.dk rfl rfl .z (cU rfl (.t .g2) (.t .z)) ?_
 refine Y.q (aE rfl rfl) rfl (by decide) rfl (aA rfl (.t .z)) ?_
 refine Y.sl rfl ?_
 refine Y.aa ?_
 refine Y.ag (by kernel_rfl) ?_
 refine Y.g ?_
 refine Y.ad (.t .z) (fun bc=> ?_) (fun bc=> ?_)
 refine Y.seq (Y.region (Y.er (.s16 .g3) (Y.ql rfl (aA rfl .c) (Y.nt (Y.ret (Y.y (Y.r ?_)))))))
 refine Y.i (aY rfl .z) .n ?_
 have ab:(1≤x.links∧x.links≤60)∨¬(1≤x.links∧x.links≤60):=Classical.em _;exact⟨by first |(rw [dG (by omega)];done) |(rw [dE ⟨by assumption,by assumption⟩ (by omega)];done) |(rw [dK ⟨by assumption,by assumption⟩ (by omega) (by assumption)];done) |(rw [dF ⟨by assumption,by assumption⟩ (by omega) (by assumption) (by rw [List.take_of_length_le (by omega)] at hnd;exact hnd)];done),rfl⟩
 refine Y.seq (Y.region (Y.fa rfl (.s16 .g4) dI (Y.ld rfl fA .z .z ?_)))
 refine Y.cl rfl rfl Tryz.func108 rfl rfl (aX (.t .z) .f) .n (fun _ _ hs tr=>sY (tr.ctx aa) Tryz.func170 rfl rfl (fun w2 S2 h2 x=>sR x)) ?_
 rintro _ _ ⟨rfl,rfl⟩
 refine Y.m .n ?_
 refine Y.as rfl .z (Y.nt ?_)
 refine Y.cond (.t .z) (fun bd=> ?_) (fun bd=> ?_)
 refine Y.seq (Y.region (Y.er (.s16 .g7) (Y.ql rfl (aA rfl .c) (Y.nt (Y.ret (Y.y (Y.r ?_)))))))
 refine Y.i (aY rfl .z) .n ?_
 have ab:(1≤x.links∧x.links≤60)∨¬(1≤x.links∧x.links≤60):=Classical.em _;exact⟨by first |(rw [dG (by omega)];done) |(rw [dE ⟨by assumption,by assumption⟩ (by omega)];done) |(rw [dK ⟨by assumption,by assumption⟩ (by omega) (by assumption)];done) |(rw [dF ⟨by assumption,by assumption⟩ (by omega) (by assumption) (by rw [List.take_of_length_le (by omega)] at hnd;exact hnd)];done),rfl⟩
 refine Y.skip (Y.ac ?_)
 exact Y.aq () ⟨⟨by assumption,by assumption⟩,by omega,by assumption⟩ (.c (.s16 .g7) (.c (.s16 .g8) .n)) (fun _ h=>h.sel (.c .z .n))
 refine Y.q (aE rfl rfl) rfl (by decide) rfl (aL rfl cF (.t .g2) (WS.g .z rfl)) ?_
 refine Y.sk .z ?_
 refine Y.aa ?_
 refine Y.sc [(2,false),(5,false),(6,true),(7,false)] (by kernel_rfl) ?_
 refine Y.call (aE rfl rfl) rfl (by decide) rfl (bS rfl Tryz.func149 rfl rfl (bT (.t .g1))) .n (fun _ _ hs tr=>sW (tr.ctx aa)) ?_
 rintro _ _ ⟨rfl,rfl⟩
 refine Y.m .n ?_
 refine Y.sk .z ?_
 refine Y.call (aE rfl rfl) rfl (by decide) rfl (bS rfl Tryz.func119 rfl rfl (bT (.t .g1))) .n (fun _ _ hs tr=>sS _ (by omega) (by omega)) ?_
 rintro _ _ ⟨rfl,rfl⟩
 refine Y.m .n ?_
 refine Y.sk .z ?_
 refine Y.dk rfl rfl .z (cU rfl (.t .g1) (.t .z)) ?_
 refine Y.q (aE rfl rfl) rfl (by decide) rfl (aA rfl (.t .z)) ?_
 refine Y.sl rfl ?_
 refine Y.aa ?_
 refine Y.ag (by kernel_rfl) ?_
 refine Y.g ?_
 refine Y.ad (.t .z) (fun be=> ?_) (fun be=> ?_)
 refine Y.seq (Y.region (Y.er (.s16 .g3) (Y.ql rfl (aA rfl .c) (Y.nt (Y.ret (Y.y (Y.r ?_)))))))
 refine Y.i (aY rfl .z) .n ?_
 have ab:(1≤x.links∧x.links≤60)∨¬(1≤x.links∧x.links≤60):=Classical.em _;exact⟨by first |(rw [dG (by omega)];done) |(rw [dE ⟨by assumption,by assumption⟩ (by omega)];done) |(rw [dK ⟨by assumption,by assumption⟩ (by omega) (by assumption)];done) |(rw [dF ⟨by assumption,by assumption⟩ (by omega) (by assumption) (by rw [List.take_of_length_le (by omega)] at hnd;exact hnd)];done),rfl⟩
 refine Y.seq (Y.region (Y.fa rfl (.s16 .g4) dI (Y.ld rfl fA .z .z ?_)))
 refine Y.cl rfl rfl Tryz.func108 rfl rfl (aX (.t .z) .f) .n (fun _ _ hs tr=>sY (tr.ctx aa) Tryz.func170 rfl rfl (fun w2 S2 h2 x=>sR x)) ?_
 rintro _ _ ⟨rfl,rfl⟩
 refine Y.m .n ?_
 refine Y.as rfl .z (Y.nt ?_)
 refine Y.cond (.t .z) (fun bf=> ?_) (fun bf=> ?_)
 refine Y.seq (Y.region (Y.er (.s16 .g7) (Y.ql rfl (aA rfl .c) (Y.nt (Y.ret (Y.y (Y.r ?_)))))))
 refine Y.i (aY rfl .z) .n ?_
 have ab:(1≤x.links∧x.links≤60)∨¬(1≤x.links∧x.links≤60):=Classical.em _;exact⟨by first |(rw [dG (by omega)];done) |(rw [dE ⟨by assumption,by assumption⟩ (by omega)];done) |(rw [dK ⟨by assumption,by assumption⟩ (by omega) (by assumption)];done) |(rw [dF ⟨by assumption,by assumption⟩ (by omega) (by assumption) (by rw [List.take_of_length_le (by omega)] at hnd;exact hnd)];done),rfl⟩
 refine Y.skip (Y.ac ?_)
 exact Y.aq () ⟨⟨by assumption,by assumption⟩,by omega,by assumption⟩ (.c (.s16 .g7) (.c (.s16 .g8) .n)) (fun _ h=>h.sel (.c .z .n))
 refine Y.q (aE rfl rfl) rfl (by decide) rfl (aL rfl cF (.t .g1) (WS.g .z rfl)) ?_
 refine Y.sk .z ?_
 refine Y.aa ?_
 refine Y.sc [(1,false),(2,false),(5,false),(6,true),(7,false)] (by kernel_rfl) ?_
 refine Y.q (aE rfl rfl) rfl (by decide) rfl (aL rfl fA (.t .g1) (WS.g .z rfl)) ?_
 refine Y.sk .z ?_
 refine Y.call (aE rfl rfl) rfl (by decide) rfl (bS rfl Tryz.func149 rfl rfl (bT (.t .z))) .n (fun _ _ hs tr=>sW (tr.ctx aa)) ?_
 rintro _ _ ⟨rfl,rfl⟩
 refine Y.m .n ?_
 refine Y.sk .z ?_
 refine Y.call (aE rfl rfl) rfl (by decide) rfl (bS rfl Tryz.func119 rfl rfl (bT (.t .g2))) .n (fun _ _ hs tr=>sS _ (by omega) (by omega)) ?_
 rintro _ _ ⟨rfl,rfl⟩
 refine Y.m .n ?_
 refine Y.sk .z ?_
 refine Y.dk rfl rfl .z (cU rfl (.t .g1) (.t .z)) ?_
 refine Y.q (aE rfl rfl) rfl (by decide) rfl (aA rfl (.t .z)) ?_
 refine Y.sl rfl ?_
 refine Y.aa ?_
 refine Y.ag (by kernel_rfl) ?_
 refine Y.g ?_
 refine Y.ad (.t .z) (fun bg=> ?_) (fun bg=> ?_)
 refine Y.seq (Y.region (Y.er (.s16 .g3) (Y.ql rfl (aA rfl .c) (Y.nt (Y.ret (Y.y (Y.r ?_)))))))
 refine Y.i (aY rfl .z) .n ?_
 have ab:(1≤x.links∧x.links≤60)∨¬(1≤x.links∧x.links≤60):=Classical.em _;exact⟨by first |(rw [dG (by omega)];done) |(rw [dE ⟨by assumption,by assumption⟩ (by omega)];done) |(rw [dK ⟨by assumption,by assumption⟩ (by omega) (by assumption)];done) |(rw [dF ⟨by assumption,by assumption⟩ (by omega) (by assumption) (by rw [List.take_of_length_le (by omega)] at hnd;exact hnd)];done),rfl⟩
 refine Y.seq (Y.region (Y.fa rfl (.s16 .g4) dI (Y.ld rfl fA .z .z ?_)))
 refine Y.cl rfl rfl Tryz.func108 rfl rfl (aX (.t .z) .f) .n (fun _ _ hs tr=>sY (tr.ctx aa) Tryz.func170 rfl rfl (fun w2 S2 h2 x=>sR x)) ?_
 rintro _ _ ⟨rfl,rfl⟩
 refine Y.m .n ?_
 refine Y.as rfl .z (Y.nt ?_)
 refine Y.cond (.t .z) (fun bh=> ?_) (fun bh=> ?_)
 refine Y.seq (Y.region (Y.er (.s16 .g7) (Y.ql rfl (aA rfl .c) (Y.nt (Y.ret (Y.y (Y.r ?_)))))))
 refine Y.i (aY rfl .z) .n ?_
 have ab:(1≤x.links∧x.links≤60)∨¬(1≤x.links∧x.links≤60):=Classical.em _;exact⟨by first |(rw [dG (by omega)];done) |(rw [dE ⟨by assumption,by assumption⟩ (by omega)];done) |(rw [dK ⟨by assumption,by assumption⟩ (by omega) (by assumption)];done) |(rw [dF ⟨by assumption,by assumption⟩ (by omega) (by assumption) (by rw [List.take_of_length_le (by omega)] at hnd;exact hnd)];done),rfl⟩
 refine Y.skip (Y.ac ?_)
 exact Y.aq () ⟨⟨by assumption,by assumption⟩,by omega,by assumption⟩ (.c (.s16 .g7) (.c (.s16 .g8) .n)) (fun _ h=>h.sel (.c .z .n))
 refine Y.q (aE rfl rfl) rfl (by decide) rfl (aL rfl cF (.t .z) (WS.g .z rfl)) ?_
 refine Y.sk .z ?_
 refine Y.aa ?_
 refine Y.sc [(0,false),(1,false),(2,false),(5,false),(6,true),(7,false)] (by kernel_rfl) ?_
 refine Y.q (aE rfl rfl) rfl (by decide) rfl (aK rfl (.t .g14) (fun _=>dI _ _)) ?_
 refine Y.sk .z ?_
 refine Y.q (aE rfl rfl) rfl (by decide) rfl (aL rfl fA (.t .z) (WS.g .z rfl)) ?_
 refine Y.sk .z ?_
 refine Y.call (aE rfl rfl) rfl (by decide) rfl (bS rfl Tryz.func149 rfl rfl (bT (.t .z))) .n (fun _ _ hs tr=>sW (tr.ctx aa)) ?_
 rintro _ _ ⟨rfl,rfl⟩
 refine Y.m .n ?_
 refine Y.sk .z ?_
 refine Y.call (aE rfl rfl) rfl (by decide) rfl (bS rfl Tryz.func119 rfl rfl (bT (.t .g3))) .n (fun _ _ hs tr=>sS _ (by omega) (by omega)) ?_
 rintro _ _ ⟨rfl,rfl⟩
 refine Y.m .n ?_
 refine Y.sk .z ?_
 refine Y.dk rfl rfl .z (cU rfl (.t .g1) (.t .z)) ?_
 refine Y.q (aE rfl rfl) rfl (by decide) rfl (aA rfl (.t .z)) ?_
 refine Y.sl rfl ?_
 refine Y.aa ?_
 refine Y.ag (by kernel_rfl) ?_
 refine Y.g ?_
 refine Y.ad (.t .z) (fun bi=> ?_) (fun bi=> ?_)
 refine Y.seq (Y.region (Y.er (.s16 .g3) (Y.ql rfl (aA rfl .c) (Y.nt (Y.ret (Y.y (Y.r ?_)))))))
 refine Y.i (aY rfl .z) .n ?_
 have ab:(1≤x.links∧x.links≤60)∨¬(1≤x.links∧x.links≤60):=Classical.em _;exact⟨by first |(rw [dG (by omega)];done) |(rw [dE ⟨by assumption,by assumption⟩ (by omega)];done) |(rw [dK ⟨by assumption,by assumption⟩ (by omega) (by assumption)];done) |(rw [dF ⟨by assumption,by assumption⟩ (by omega) (by assumption) (by rw [List.take_of_length_le (by omega)] at hnd;exact hnd)];done),rfl⟩
 refine Y.seq (Y.region (Y.fa rfl (.s16 .g4) dI (Y.ld rfl fA .z .z ?_)))
 refine Y.cl rfl rfl Tryz.func108 rfl rfl (aX (.t .z) .f) .n (fun _ _ hs tr=>sY (tr.ctx aa) Tryz.func170 rfl rfl (fun w2 S2 h2 x=>sR x)) ?_
 rintro _ _ ⟨rfl,rfl⟩
 refine Y.m .n ?_
 refine Y.as rfl .z (Y.nt ?_)
 refine Y.cond (.t .z) (fun bj=> ?_) (fun bj=> ?_)
 refine Y.seq (Y.region (Y.er (.s16 .g7) (Y.ql rfl (aA rfl .c) (Y.nt (Y.ret (Y.y (Y.r ?_)))))))
 refine Y.i (aY rfl .z) .n ?_
 have ab:(1≤x.links∧x.links≤60)∨¬(1≤x.links∧x.links≤60):=Classical.em _;exact⟨by first |(rw [dG (by omega)];done) |(rw [dE ⟨by assumption,by assumption⟩ (by omega)];done) |(rw [dK ⟨by assumption,by assumption⟩ (by omega) (by assumption)];done) |(rw [dF ⟨by assumption,by assumption⟩ (by omega) (by assumption) (by rw [List.take_of_length_le (by omega)] at hnd;exact hnd)];done),rfl⟩
 refine Y.skip (Y.ac ?_)
 exact Y.aq () ⟨⟨by assumption,by assumption⟩,by omega,by assumption⟩ (.c (.s16 .g7) (.c (.s16 .g8) .n)) (fun _ h=>h.sel (.c .z .n))
 rintro _u ⟨⟨bq,br⟩,bs,bt⟩
 refine Y.seq (Y.seq (Y.region (Y.fa rfl .g1 dI (Y.ld rfl fA .z .z (Y.ql rfl (bM rfl eQ (.t .z)) (Y.ql rfl (aV rfl .c) (Y.nt ?_)))))))
 refine Y.block ?_
 refine Y.aj (γ:=Nat) (fun k=> [(31,.int .i64 (k:Int)),(30,.int .i64 (x.blocks.length:Int)),(29,.slice ad x.blocks.length ac),(1,.pointer (some ⟨g3,0,none⟩))]) (fun k=> [cM g3 44 5 1 [.int .i64 x.kind,.int .i64 x.links,.int .i64 x.size,.slice ad x.blocks.length ac,.slice ae x.ents.length af]]) (fun k=>k≤x.blocks.length∧(x.blocks.take k).Nodup) (fun k=>x.blocks.length - k) 0 ⟨Nat.zero_le _,List.Pairwise.nil⟩ (.c .z (.c .g1 (.c .g2 (.c .g5 .n)))) (fun _ h=>h.sel (.c .z .n)) ?_
 rintro k ⟨hk,hnd⟩
 refine Y.seq (Y.region (Y.ql rfl (dJ rfl (.t .z) (.t .g1)) (Y.nt (Y.seq ?_))))
 refine Y.u (.t .z) (fun bk=> ?_) (fun bk=> ?_)
 refine Y.skip (Y.g (Y.seq (Y.block (Y.seq (Y.region (Y.mv rfl .g1 ?_))))))
 obtain⟨al,ah,ai⟩:=ak (by omega)
 subst ah
 obtain⟨bu,aj⟩:=aI (xs:=x.blocks) (j:=k) (by omega)
 obtain⟨a1,am,an,ao⟩:=ai.elem aj
 obtain⟨rfl,bm⟩:=am
 refine Y.ql rfl (aC (j:=k) rfl eQ jQ (.t .g4) (.t .g2) rfl (by omega)) ?_
 refine Y.ql rfl (aL rfl cF (.t .z) (WS.j an ao rfl)) (Y.as rfl .g2 (Y.as rfl .g1 (Y.nt (Y.seq (Y.region (Y.fa rfl .g9 dI (Y.ld rfl fA .z .z ?_)))))))
 refine Y.mv rfl .g3 ?_
 obtain⟨bn,ag⟩:∃A':Option Addr,A'=(if ac=0 then(some al)else Option.map (fun z=>Addr.add z (0 * 1)) (some al)):=⟨_,rfl⟩
 have aq:=nK (a:=0) (b:=k) ag aa (by omega) (by omega)
 have bo:=fR (xs:=x.blocks) (a:=0) (b:=k) (by omega)
 refine Y.ql rfl (iN (a:=0) (b:=k) rfl eQ jQ (.t .g1) ag (.inl ⟨rfl,rfl⟩) (.inr ⟨_,_,rfl,(.t .z)⟩) (by omega) (by omega) (by omega)) ?_
 refine Y.mv rfl .g4 ?_
 refine Y.cl rfl rfl Tryz.func140 rfl rfl (aX (.t .g1) (.t .z)) .n (fun _ _ hs tr=>aLq (tr.ctx aq) _) ?_
 rintro _ _ ⟨rfl,rfl⟩
 refine Y.m .n ?_
 refine Y.nt ?_
 refine Y.u (.t .z) (fun bp=> ?_) (fun bp=> ?_)
 refine Y.seq (Y.region (Y.ql rfl (aA rfl .c) (Y.nt (Y.ret (Y.y (Y.r (Y.r ?_)))))))
 refine Y.y (Y.r ?_)
 refine Y.i (aY rfl .z) .n ?_
 have ab:(1≤x.links∧x.links≤60)∨¬(1≤x.links∧x.links≤60):=Classical.em _;exact⟨by first |(rw [dG (by omega)];done) |(rw [dE ⟨by assumption,by assumption⟩ (by omega)];done) |(rw [dK ⟨by assumption,by assumption⟩ (by omega) (by assumption)];done) |(rw [wC ⟨by assumption,by assumption⟩ (by omega) (by assumption) (zY aj (by assumption))];done) |(rw [dF ⟨by assumption,by assumption⟩ (by omega) (by assumption) (by rw [List.take_of_length_le (by omega)] at hnd;exact hnd)];done),rfl⟩
 refine Y.skip (Y.ac (Y.g (Y.region ?_)))
 refine Y.ql rfl (bQ (c:=((k+1:Nat):Int)) rfl (.t .g12) .c (wr (by omega) (by omega) (by omega))) ?_
 refine Y.er .g13 (Y.mv rfl .z (Y.nil ?_))
 refine Y.ae (k+1) ⟨by omega,aDz hnd aj (by assumption)⟩ (by first | omega |(dsimp only;omega)) (.c .z (.c .g14 (.c .g15 (.c .g16 .n)))) (fun _ h=>h.sel (.c .z .n))
 refine Y.exit (Y.ab (Y.ab (Y.ai (Y.g (Y.seq (Y.region (Y.ql rfl (aA rfl .c) (Y.nil ?_))))))))
 refine Y.g (Y.ret ?_)
 refine Y.i (aY rfl .z) .n ?_
 have ab:(1≤x.links∧x.links≤60)∨¬(1≤x.links∧x.links≤60):=Classical.em _;exact⟨by first |(rw [dG (by omega)];done) |(rw [dE ⟨by assumption,by assumption⟩ (by omega)];done) |(rw [dK ⟨by assumption,by assumption⟩ (by omega) (by assumption)];done) |(rw [dF ⟨by assumption,by assumption⟩ (by omega) (by assumption) (by rw [List.take_of_length_le (by omega)] at hnd;exact hnd)];done),rfl⟩

theorem aB4 {w0:World}{S0:Bs}{x:aF}{aw:List Value} (h0:bD.ro w0 (FF w0 S0) x aw):
    Calls Tryz.prog 154 #[.agg aw.toArray] w0 (aJ w0 S0 (fun r l=>r= .int .i64 (iP x)∧l= [])):=by
 obtain⟨a6,a7,rfl,an,ao⟩:=cK h0
 obtain⟨ag,ah,rfl,ax,ay,az,a0⟩:=aH an
 obtain⟨ac,ad,rfl,a1,a2,a3,ai⟩:=aH ao
 refine Y.enter (N:=43) Tryz.func154 rfl rfl (by simp) [(0,.agg #[.int .i64 x.kind,.int .i64 x.links,.int .i64 x.size,.slice ag x.blocks.length ah,.slice ac x.ents.length ad])] (by simp) (l0:= []) trivial ?_
 refine Y.seq (Y.region ?_)
 refine Y.el rfl (fT (cs:= [.int .i64 x.kind,.int .i64 x.links,.int .i64 x.size,.slice ag x.blocks.length ah,.slice ac x.ents.length ad]) (n:=5) rfl (.t .z) rfl rfl) ?_
 rintro _ _ ⟨g3,rfl,rfl⟩
 refine Y.ql rfl (aA rfl .c) (Y.nt (Y.seq (Y.seq (Y.region (Y.fa rfl .g1 bE (Y.ld rfl dP .z .z (Y.ql rfl (bM rfl cZ (.t .z)) ?_)))))))
 refine Y.ql rfl (gO rfl (.t .z) .c) (Y.nt ?_)
 refine Y.u (.t .z) (fun b4=> ?_) (fun b4=> ?_)
 refine Y.seq (Y.region (Y.er .g4 (Y.ql rfl (aA rfl .c) (Y.nt (Y.ret (Y.r ?_))))))
 refine Y.i (aY rfl .z) .n ?_
 exact⟨by first |(rw [jC (by assumption)];done) |(rw [gZ (by assumption) (fun j hj=>hallk j (by omega))];done),rfl⟩
 refine Y.skip (Y.g (Y.seq (Y.seq (Y.region (Y.fa rfl .g5 bE (Y.ld rfl dP .z .z (Y.ql rfl (bM rfl cZ (.t .z)) (Y.ql rfl (aV rfl .c) ?_))))))))
 refine Y.nt (Y.block ?_)
 refine Y.aj (γ:=Nat) (fun k=> [(13,.int .i64 (k:Int)),(12,.int .i64 (x.ents.length:Int)),(11,.slice ac x.ents.length ad),(1,.pointer (some ⟨g3,0,none⟩))]) (fun k=> [cM g3 44 5 1 [.int .i64 x.kind,.int .i64 x.links,.int .i64 x.size,.slice ag x.blocks.length ah,.slice ac x.ents.length ad]]) (fun k=>k≤x.ents.length∧∀j,j<k→nY x.ents j=0) (fun k=>x.ents.length - k) 0 ⟨Nat.zero_le _,fun j hj=>absurd hj (Nat.not_lt_zero j)⟩ (.c .z (.c .g1 (.c .g2 (.c .g9 .n)))) (fun _ h=>h.sel (.c .z .n)) ?_
 rintro k ⟨hk,hallk⟩
 refine Y.seq (Y.region (Y.ql rfl (dJ rfl (.t .z) (.t .g1)) (Y.nt (Y.seq ?_))))
 refine Y.u (.t .z) (fun b5=> ?_) (fun b5=> ?_)
 refine Y.skip (Y.g (Y.seq (Y.block (Y.seq (Y.region (Y.mv rfl .g1 ?_))))))
 obtain⟨bb,aj,af⟩:=ai (by omega)
 subst aj
 obtain⟨x7,aa⟩:=aI (xs:=x.ents) (j:=k) (by omega)
 obtain⟨a8,ap,aq,ar⟩:=af.elem aa
 obtain⟨rfl,a4⟩:=eR ap
 refine Y.ql rfl (aC (j:=k) rfl cZ dV (.t .g4) (.t .g2) rfl (by omega)) ?_
 refine Y.ql rfl (qE rfl pU (.t .z) aq ar dV) ?_
 refine Y.el rfl (bL rfl aFx rfl rfl) ?_
 rintro _ _ ⟨g9,rfl,rfl⟩
 refine Y.as rfl .g3 ?_
 refine Y.es (aD rfl) rfl (esW rfl (.t .g1) (.t .g2) .z dV rfl rfl) ?_
 refine Y.nt (Y.seq (Y.seq (Y.region (Y.fa rfl .g1 jP (Y.ld rfl iR .z .z ?_)))))
 refine Y.cl rfl rfl Tryz.func123 rfl rfl (bT (.t .z)) .n (fun _ _ hs tr=>aJ8 _ (by first | assumption | omega)) ?_
 rintro _ _ ⟨rfl,rfl⟩
 refine Y.m .n ?_
 refine Y.as rfl .z (Y.nt (Y.seq (Y.region (Y.mv rfl .z (Y.ql rfl (cU rfl (.t .z) .c) (Y.nt ?_))))))
 refine Y.ad (.t .z) (fun a9=> ?_) (fun a9=> ?_)
 refine Y.seq (Y.region (Y.mv rfl .g2 (Y.as rfl .z (Y.nt (Y.ret (Y.r (Y.y ?_)))))))
 refine Y.r (Y.r (Y.y (Y.r ?_)))
 refine Y.i (aY rfl .z) .n ?_
 exact⟨by first |(rw [jC (by assumption)];done) |(rw [gZ (by assumption) (fun j hj=>hallk j (by omega))];done) |(rw [gL (by assumption) aa (by rw [kX (by assumption)];first | assumption | decide) hallk,kX (by assumption)];done) |(rw [gL (by assumption) aa (by rw [kY (by assumption) (by assumption)];first | assumption | decide) hallk,kY (by assumption) (by assumption)];done),rfl⟩
 refine Y.skip (Y.g (Y.seq (Y.seq (Y.region (Y.fa rfl .g7 iX (Y.ld rfl cF .z .z ?_))))))
 refine Y.cl rfl rfl Tryz.func84 rfl rfl (dX (.t .z) .c .c) .n (fun _ _ hs tr=>yY _ _ _) ?_
 rintro _ _ ⟨rfl,rfl⟩
 refine Y.m .n ?_
 refine Y.ql rfl (fN rfl (.t .z)) (Y.nt ?_)
 refine Y.ad (.t .z) (fun ba=> ?_) (fun ba=> ?_)
 refine Y.seq (Y.region (Y.ql rfl (aA rfl .c) (Y.nt (Y.ret (Y.r (Y.y (Y.r ?_)))))))
 refine Y.r (Y.y (Y.r ?_))
 refine Y.i (aY rfl .z) .n ?_
 exact⟨by first |(rw [jC (by assumption)];done) |(rw [gZ (by assumption) (fun j hj=>hallk j (by omega))];done) |(rw [gL (by assumption) aa (by rw [kX (by assumption)];first | assumption | decide) hallk,kX (by assumption)];done) |(rw [gL (by assumption) aa (by rw [kY (by assumption) (by assumption)];first | assumption | decide) hallk,kY (by assumption) (by assumption)];done),rfl⟩
 refine Y.skip (Y.g (Y.seq ?_))
 refine Y.dr .z 14 gG ?_
 refine Y.sc (qs 0 3) (by kernel_rfl) ?_
 refine Y.dm rfl rfl .z .g10 (Y.dk rfl rfl .z (gO rfl (.t .z) .c) (Y.dm rfl rfl .z .z (Y.aa ?_)))
 refine Y.al .z (fun g12=> ?_) (fun g12=> ?_)
 refine Y.sc (qs 3 11) (by kernel_rfl) ?_
 refine Y.ah rfl rfl rfl .z rfl (by decide) rfl .z (aK rfl (.t (.s16 .g6)) (fun _=>bE _ _)) ?_
 refine Y.ah rfl rfl rfl .g1 rfl (by decide) rfl .z (aL rfl dP (.t .z) (WS.g .g1 rfl)) ?_
 refine Y.ah rfl rfl rfl .g2 rfl (by decide) rfl .z (aV rfl (.t .g15)) ?_
 refine Y.ah rfl rfl rfl .g3 rfl (by decide) rfl .z (jL (c:=(k:Int) - 1) rfl (.t .z) .c (wr (by omega) (by omega) (by omega))) ?_
 obtain⟨au,ae⟩:=aI (xs:=x.ents) (j:=Int.toNat ((k:Int) - 1)) (by omega)
 obtain⟨a5,ak,al,am⟩:=af.elem ae
 obtain⟨rfl,av⟩:=eR ak
 refine Y.ah rfl rfl rfl .g4 rfl (by decide) rfl .z (aC (j:=Int.toNat ((k:Int) - 1)) rfl cZ dV (.t .g2) (.t .z) (by omega) (by omega)) ?_
 refine Y.ah rfl rfl rfl .g5 rfl (by decide) rfl .z (aK rfl (.t .z) (fun _=>jP _ _)) ?_
 refine Y.ah rfl rfl rfl .g6 rfl (by decide) rfl .z (aL rfl iR (.t .z) (WS.el al am rfl)) ?_
 refine Y.ah rfl rfl rfl .g7 rfl (by decide) rfl .z (aK rfl (.t (.s16 .g5)) (fun _=>jP _ _)) ?_
 refine Y.ah rfl rfl rfl .g8 rfl (by decide) rfl .z (aL rfl iR (.t .z) (WS.g .z rfl)) ?_
 refine Y.ah rfl rfl rfl .g9 rfl (by decide) rfl .z (aKj rfl (.t .g2) (.t .z)) ?_
 refine Y.dk rfl rfl .z (bO rfl (.t .g10) (.t .z)) (Y.aa ?_)
 refine Y.ag (by kernel_rfl) ?_
 refine Y.g ?_
 refine Y.cond (.t .z) (fun ab=> ?_) (fun ab=> ?_)
 refine Y.seq (Y.region (Y.ql rfl (aA rfl .c) (Y.nt (Y.ret (Y.y (Y.r (Y.r ?_)))))))
 refine Y.y (Y.r ?_)
 refine Y.i (aY rfl .z) .n ?_
 exact⟨by first |(rw [jC (by assumption)];done) |(rw [gZ (by assumption) (fun j hj=>hallk j (by omega))];done) |(rw [gL (by assumption) aa (by rw [kX (by assumption)];first | assumption | decide) hallk,kX (by assumption)];done) |(rw [gL (by assumption) aa (by rw [kY (by assumption) (by assumption)];first | assumption | decide) hallk,kY (by assumption) (by assumption)];done) |(rw [gL (by assumption) aa (by rw [wL (p:=au) (by assumption) (by assumption) (by omega) (by rw [show k - 1=Int.toNat ((k:Int) - 1) by omega];exact ae) (by first |(simpa using ab) |(rw [qJ] at ab;simpa using ab))];first | assumption | decide) hallk,wL (p:=au) (by assumption) (by assumption) (by omega) (by rw [show k - 1=Int.toNat ((k:Int) - 1) by omega];exact ae) (by first |(simpa using ab) |(rw [qJ] at ab;simpa using ab))];done),rfl⟩
 refine Y.skip (Y.ac (Y.g (Y.region ?_)))
 refine Y.ql rfl (bQ (c:=((k+1:Nat):Int)) rfl (.t (.s16 .g14)) .c (wr (by omega) (by omega) (by omega))) ?_
 refine Y.er (.s16 .g15) (Y.mv rfl .z (Y.nil ?_))
 refine Y.ae (k+1) ⟨by omega,wR hallk aa (by first | exact qL (by assumption) (by assumption) (by omega) | exact aAp (p:=au) (by assumption) (by assumption) (by omega) (by rw [show k - 1=Int.toNat ((k:Int) - 1) by omega];exact ae) (by first |(simpa using ab) |(rw [qJ] at ab;simpa using ab)))⟩ (by first | omega |(dsimp only;omega)) (.c .z (.c (.s16 .g16) (.c (.s16 (.s16 .g1)) (.c (.s16 (.s16 .g2)) .n)))) (fun _ h=>h.sel (.c .g1 .n))
 refine Y.sc (qs 3 11) (by kernel_rfl) ?_
 refine Y.am rfl rfl rfl .z rfl rfl (by decide) rfl .z ?_
 refine Y.am rfl rfl rfl .g1 rfl rfl (by decide) rfl .z ?_
 refine Y.am rfl rfl rfl .g2 rfl rfl (by decide) rfl .z ?_
 refine Y.am rfl rfl rfl .g3 rfl rfl (by decide) rfl .z ?_
 refine Y.am rfl rfl rfl .g4 rfl rfl (by decide) rfl .z ?_
 refine Y.am rfl rfl rfl .g5 rfl rfl (by decide) rfl .z ?_
 refine Y.am rfl rfl rfl .g6 rfl rfl (by decide) rfl .z ?_
 refine Y.am rfl rfl rfl .g7 rfl rfl (by decide) rfl .z ?_
 refine Y.am rfl rfl rfl .g8 rfl rfl (by decide) rfl .z ?_
 refine Y.am rfl rfl rfl .g9 rfl rfl (by decide) rfl .z ?_
 refine Y.dk rfl rfl .z (bW rfl (.t .g10) .c) (Y.aa ?_)
 refine Y.ag (by kernel_rfl) ?_
 refine Y.g ?_
 refine Y.ar (.t .z) ?_
 refine Y.skip (Y.ac (Y.g (Y.region ?_)))
 refine Y.ql rfl (bQ (c:=((k+1:Nat):Int)) rfl (.t (.s16 .g14)) .c (wr (by omega) (by omega) (by omega))) ?_
 refine Y.er (.s16 .g15) (Y.mv rfl .z (Y.nil ?_))
 refine Y.ae (k+1) ⟨by omega,wR hallk aa (by first | exact qL (by assumption) (by assumption) (by omega) | exact qL (by assumption) (by assumption) (by omega))⟩ (by first | omega |(dsimp only;omega)) (.c .z (.c (.s16 .g16) (.c (.s16 (.s16 .g1)) (.c (.s16 (.s16 .g2)) .n)))) (fun _ h=>h.sel (.c .g1 .n))
 refine Y.exit (Y.ab (Y.ab (Y.ai (Y.g (Y.seq (Y.region (Y.ql rfl (aA rfl .c) (Y.nil ?_))))))))
 refine Y.g (Y.ret ?_)
 refine Y.i (aY rfl .z) .n ?_
 exact⟨by first |(rw [jC (by assumption)];done) |(rw [gZ (by assumption) (fun j hj=>hallk j (by omega))];done),rfl⟩

theorem aL9 {w0:World}{S0:Bs}{x:aF}{an:Addr} (h0:gP bD w0 (FF w0 S0) an x):
    Calls Tryz.prog 163 #[.pointer (some an)] w0 (aJ w0 S0 (fun r l=>r= .int .i64 (iP x)∧l= [])):=by
 obtain⟨bc,ag,a4,ah⟩:=id h0
 obtain⟨a5,a6,rfl,ao,ap⟩:=cK a4
 obtain⟨a7,a8,rfl,av,aw,ax,ay⟩:=aH ao
 obtain⟨a9,ba,rfl,az,a0,a1,ai⟩:=aH ap
 refine Y.enter (N:=64) Tryz.func163 rfl rfl (by simp) [(0,.pointer (some an))] (by simp) (l0:= []) trivial ?_
 refine Y.seq (Y.region (Y.ql rfl (aA rfl .c) (Y.nt (Y.seq (Y.seq (Y.region (Y.mv rfl .g1 ?_)))))))
 refine Y.nc rfl .z (Y.fa rfl .z bE (Y.le rfl dP .z ag ah (Y.ql rfl (bM rfl cZ (.t .z)) (Y.ql rfl (gO rfl (.t .z) .c) (Y.nt ?_)))))
 refine Y.u (.t .z) (fun b3=> ?_) (fun b3=> ?_)
 refine Y.seq (Y.region (Y.er .g6 (Y.ql rfl (aA rfl .c) (Y.nt (Y.ret (Y.r ?_))))))
 refine Y.i (aY rfl .z) .n ?_
 exact⟨by first |(rw [jC (by assumption)];done) |(rw [gZ (by assumption) (fun j hj=>hallk j (by omega))];done),rfl⟩
 refine Y.skip (Y.g (Y.seq (Y.seq (Y.region (Y.ql rfl (aA rfl .c) (Y.nt (Y.block ?_)))))))
 refine Y.aj (γ:=Nat) (fun k=> [(3,.int .i64 (k:Int)),(0,.pointer (some an))]) (fun k=> []) (fun k=>k≤x.ents.length∧∀j,j<k→nY x.ents j=0) (fun k=>x.ents.length - k) 0 ⟨Nat.zero_le _,fun j hj=>absurd hj (Nat.not_lt_zero j)⟩ (.c .z (.c .g8 .n)) (fun _ h=>h) ?_
 rintro k ⟨hk,hallk⟩
 refine Y.seq (Y.seq (Y.region (Y.mv rfl .z (Y.mv rfl .g2 (Y.nc rfl .z (Y.fa rfl .z bE (Y.le rfl dP .z ag ah (Y.ql rfl (bM rfl cZ (.t .z)) ?_))))))))
 refine Y.ql rfl (dJ rfl (.t .g5) (.t .z)) (Y.nt ?_)
 refine Y.u (.t .z) (fun b4=> ?_) (fun b4=> ?_)
 refine Y.skip (Y.g (Y.seq (Y.block (Y.seq (Y.seq (Y.region (Y.mv rfl .g8 (Y.nc rfl .z ?_))))))))
 refine Y.fa rfl .z bE (Y.le rfl dP .z ag ah (Y.mv rfl .g11 ?_))
 obtain⟨bd,aj,ad⟩:=ai (by omega)
 subst aj
 obtain⟨x6,aa⟩:=aI (xs:=x.ents) (j:=k) (by omega)
 obtain⟨bb,aq,ae,af⟩:=ad.elem aa
 obtain⟨rfl,a2⟩:=eR aq
 refine Y.ql rfl (aC (j:=k) rfl cZ dV (.t .g1) (.t .z) rfl (by omega)) ?_
 refine Y.fa rfl .z jP (Y.le rfl iR .z ae af ?_)
 refine Y.cl rfl rfl Tryz.func126 rfl rfl (bT (.t .z)) .n (fun _ _ hs tr=>aGh _ (by first | assumption | omega)) ?_
 rintro _ _ ⟨rfl,rfl⟩
 refine Y.m .n ?_
 refine Y.as rfl .z (Y.nt (Y.seq (Y.region (Y.mv rfl .z (Y.ql rfl (cU rfl (.t .z) .c) (Y.nt ?_))))))
 refine Y.ad (.t .z) (fun b8=> ?_) (fun b8=> ?_)
 refine Y.seq (Y.region (Y.mv rfl .g2 (Y.as rfl .z (Y.nt (Y.ret (Y.r (Y.y ?_)))))))
 refine Y.r (Y.r (Y.y (Y.r ?_)))
 refine Y.i (aY rfl .z) .n ?_
 exact⟨by first |(rw [jC (by assumption)];done) |(rw [gZ (by assumption) (fun j hj=>hallk j (by omega))];done) |(rw [gL (by assumption) aa (by rw [kX (by assumption)];first | assumption | decide) hallk,kX (by assumption)];done) |(rw [gL (by assumption) aa (by rw [kY (by assumption) (by assumption)];first | assumption | decide) hallk,kY (by assumption) (by assumption)];done),rfl⟩
 refine Y.skip (Y.g (Y.seq (Y.seq (Y.region (Y.mv rfl (.s16 .g4) (Y.nc rfl .z (Y.fa rfl .z bE (Y.le rfl dP .z ag ah ?_))))))))
 refine Y.mv rfl (.s16 .g7) ?_
 refine Y.ql rfl (aC (j:=k) rfl cZ dV (.t .g1) (.t .z) rfl (by omega)) ?_
 refine Y.fa rfl .z iX (Y.le rfl cF .z ae af ?_)
 refine Y.cl rfl rfl Tryz.func46 rfl rfl (dX (.t .z) .c .c) .n (fun _ _ hs tr=>xL _ _ _) ?_
 rintro _ _ ⟨rfl,rfl⟩
 refine Y.m .n ?_
 refine Y.ql rfl (fN rfl (.t .z)) (Y.nt ?_)
 refine Y.ad (.t .z) (fun b9=> ?_) (fun b9=> ?_)
 refine Y.seq (Y.region (Y.ql rfl (aA rfl .c) (Y.nt (Y.ret (Y.r (Y.y (Y.r ?_)))))))
 refine Y.r (Y.y (Y.r ?_))
 refine Y.i (aY rfl .z) .n ?_
 exact⟨by first |(rw [jC (by assumption)];done) |(rw [gZ (by assumption) (fun j hj=>hallk j (by omega))];done) |(rw [gL (by assumption) aa (by rw [kX (by assumption)];first | assumption | decide) hallk,kX (by assumption)];done) |(rw [gL (by assumption) aa (by rw [kY (by assumption) (by assumption)];first | assumption | decide) hallk,kY (by assumption) (by assumption)];done),rfl⟩
 refine Y.skip (Y.g (Y.seq ?_))
 refine Y.dr .z 22 gG ?_
 refine Y.sc (qs 0 3) (by kernel_rfl) ?_
 refine Y.dm rfl rfl .z (.s16 .g13) (Y.dk rfl rfl .z (gO rfl (.t .z) .c) (Y.dm rfl rfl .z .z (Y.aa ?_)))
 refine Y.al .z (fun g10=> ?_) (fun g10=> ?_)
 refine Y.sc (qs 3 19) (by kernel_rfl) ?_
 refine Y.ah rfl rfl rfl .z rfl (by decide) rfl .z (aV rfl (.t (.s16 (.s16 .g1)))) ?_
 refine Y.ah rfl rfl rfl .g1 rfl (by decide) rfl .z (eB rfl (.t .z)) ?_
 refine Y.ah rfl rfl rfl .g2 rfl (by decide) rfl .z (aK rfl (.t .z) (fun _=>bE _ _)) ?_
 refine Y.ah rfl rfl rfl .g3 rfl (by decide) rfl .z (aL rfl dP (.t .z) (WS.el ag ah rfl)) ?_
 refine Y.ah rfl rfl rfl .g4 rfl (by decide) rfl .z (aV rfl (.t (.s16 (.s16 .g4)))) ?_
 refine Y.ah rfl rfl rfl .g5 rfl (by decide) rfl .z (aC (j:=k) rfl cZ dV (.t .g1) (.t .z) rfl (by omega)) ?_
 refine Y.ah rfl rfl rfl .g6 rfl (by decide) rfl .z (aK rfl (.t .z) (fun _=>jP _ _)) ?_
 refine Y.ah rfl rfl rfl .g7 rfl (by decide) rfl .z (aL rfl iR (.t .z) (WS.el ae af rfl)) ?_
 refine Y.ah rfl rfl rfl .g8 rfl (by decide) rfl .z (aV rfl (.t (.s16 (.s16 .g9)))) ?_
 refine Y.ah rfl rfl rfl .g9 rfl (by decide) rfl .z (eB rfl (.t .z)) ?_
 refine Y.ah rfl rfl rfl .g10 rfl (by decide) rfl .z (aK rfl (.t .z) (fun _=>bE _ _)) ?_
 refine Y.ah rfl rfl rfl .g11 rfl (by decide) rfl .z (aL rfl dP (.t .z) (WS.el ag ah rfl)) ?_
 refine Y.ah rfl rfl rfl .g12 rfl (by decide) rfl .z (aV rfl (.t (.s16 (.s16 .g12)))) ?_
 refine Y.ah rfl rfl rfl .g13 rfl (by decide) rfl .z (jL (c:=(k:Int) - 1) rfl (.t .z) .c (wr (by omega) (by omega) (by omega))) ?_
 obtain⟨ar,ac⟩:=aI (xs:=x.ents) (j:=Int.toNat ((k:Int) - 1)) (by omega)
 obtain⟨a3,ak,al,am⟩:=ad.elem ac
 obtain⟨rfl,au⟩:=eR ak
 refine Y.ah rfl rfl rfl .g14 rfl (by decide) rfl .z (aC (j:=Int.toNat ((k:Int) - 1)) rfl cZ dV (.t .g2) (.t .z) (by omega) (by omega)) ?_
 refine Y.ah rfl rfl rfl .g15 rfl (by decide) rfl .z (aK rfl (.t .z) (fun _=>jP _ _)) ?_
 refine Y.ah rfl rfl rfl .g16 rfl (by decide) rfl .z (aL rfl iR (.t .z) (WS.el al am rfl)) ?_
 refine Y.ah rfl rfl rfl (.s16 .g1) rfl (by decide) rfl .z (aKu rfl (.t .g9) (.t .z)) ?_
 refine Y.dk rfl rfl .z (bO rfl (.t (.s16 .g2)) (.t .z)) (Y.aa ?_)
 refine Y.ag (by kernel_rfl) ?_
 refine Y.g ?_
 refine Y.cond (.t .z) (fun ab=> ?_) (fun ab=> ?_)
 refine Y.seq (Y.region (Y.ql rfl (aA rfl .c) (Y.nt (Y.ret (Y.y (Y.r (Y.r ?_)))))))
 refine Y.y (Y.r ?_)
 refine Y.i (aY rfl .z) .n ?_
 exact⟨by first |(rw [jC (by assumption)];done) |(rw [gZ (by assumption) (fun j hj=>hallk j (by omega))];done) |(rw [gL (by assumption) aa (by rw [kX (by assumption)];first | assumption | decide) hallk,kX (by assumption)];done) |(rw [gL (by assumption) aa (by rw [kY (by assumption) (by assumption)];first | assumption | decide) hallk,kY (by assumption) (by assumption)];done) |(rw [gL (by assumption) aa (by rw [wL (p:=ar) (by assumption) (by assumption) (by omega) (by rw [show k - 1=Int.toNat ((k:Int) - 1) by omega];exact ac) (by first |(simpa using ab) |(rw [qJ] at ab;simpa using ab))];first | assumption | decide) hallk,wL (p:=ar) (by assumption) (by assumption) (by omega) (by rw [show k - 1=Int.toNat ((k:Int) - 1) by omega];exact ac) (by first |(simpa using ab) |(rw [qJ] at ab;simpa using ab))];done),rfl⟩
 refine Y.skip (Y.ac (Y.g (Y.region (Y.mv rfl (.s16 (.s16 (.s16 .g3))) ?_))))
 refine Y.ql rfl (bQ (c:=((k+1:Nat):Int)) rfl (.t .z) .c (wr (by omega) (by omega) (by omega))) ?_
 refine Y.er (.s16 (.s16 (.s16 .g5))) (Y.as rfl .z (Y.nil ?_))
 refine Y.ae (k+1) ⟨by omega,wR hallk aa (by first | exact qL (by assumption) (by assumption) (by omega) | exact aAp (p:=ar) (by assumption) (by assumption) (by omega) (by rw [show k - 1=Int.toNat ((k:Int) - 1) by omega];exact ac) (by first |(simpa using ab) |(rw [qJ] at ab;simpa using ab)))⟩ (by first | omega |(dsimp only;omega)) (.c .z (.c (.s16 (.s16 (.s16 .g6))) .n)) (fun _ h=>h)
 refine Y.sc (qs 3 19) (by kernel_rfl) ?_
 refine Y.am rfl rfl rfl .z rfl rfl (by decide) rfl .z ?_
 refine Y.am rfl rfl rfl .g1 rfl rfl (by decide) rfl .z ?_
 refine Y.am rfl rfl rfl .g2 rfl rfl (by decide) rfl .z ?_
 refine Y.am rfl rfl rfl .g3 rfl rfl (by decide) rfl .z ?_
 refine Y.am rfl rfl rfl .g4 rfl rfl (by decide) rfl .z ?_
 refine Y.am rfl rfl rfl .g5 rfl rfl (by decide) rfl .z ?_
 refine Y.am rfl rfl rfl .g6 rfl rfl (by decide) rfl .z ?_
 refine Y.am rfl rfl rfl .g7 rfl rfl (by decide) rfl .z ?_
 refine Y.am rfl rfl rfl .g8 rfl rfl (by decide) rfl .z ?_
 refine Y.am rfl rfl rfl .g9 rfl rfl (by decide) rfl .z ?_
 refine Y.am rfl rfl rfl .g10 rfl rfl (by decide) rfl .z ?_
 refine Y.am rfl rfl rfl .g11 rfl rfl (by decide) rfl .z ?_
 refine Y.am rfl rfl rfl .g12 rfl rfl (by decide) rfl .z ?_
 refine Y.am rfl rfl rfl .g13 rfl rfl (by decide) rfl .z ?_
 refine Y.am rfl rfl rfl .g14 rfl rfl (by decide) rfl .z ?_
 refine Y.am rfl rfl rfl .g15 rfl rfl (by decide) rfl .z ?_
 refine Y.am rfl rfl rfl .g16 rfl rfl (by decide) rfl .z ?_
 refine Y.am rfl rfl rfl (.s16 .g1) rfl rfl (by decide) rfl .z ?_
 refine Y.dk rfl rfl .z (bW rfl (.t (.s16 .g2)) .c) (Y.aa ?_)
 refine Y.ag (by kernel_rfl) ?_
 refine Y.g ?_
 refine Y.ar (.t .z) ?_
 refine Y.skip (Y.ac (Y.g (Y.region (Y.mv rfl (.s16 (.s16 (.s16 .g3))) ?_))))
 refine Y.ql rfl (bQ (c:=((k+1:Nat):Int)) rfl (.t .z) .c (wr (by omega) (by omega) (by omega))) ?_
 refine Y.er (.s16 (.s16 (.s16 .g5))) (Y.as rfl .z (Y.nil ?_))
 refine Y.ae (k+1) ⟨by omega,wR hallk aa (by first | exact qL (by assumption) (by assumption) (by omega) | exact qL (by assumption) (by assumption) (by omega))⟩ (by first | omega |(dsimp only;omega)) (.c .z (.c (.s16 (.s16 (.s16 .g6))) .n)) (fun _ h=>h)
 refine Y.exit (Y.ab (Y.ab (Y.ai (Y.g (Y.seq (Y.region (Y.ql rfl (aA rfl .c) (Y.nil ?_))))))))
 refine Y.g (Y.ret ?_)
 refine Y.i (aY rfl .z) .n ?_
 exact⟨by first |(rw [jC (by assumption)];done) |(rw [gZ (by assumption) (fun j hj=>hallk j (by omega))];done),rfl⟩

end Go.Proofs.YtmejbfmhaoilmaaGreat

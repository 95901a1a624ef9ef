/- What is proved: contracts of functions, one a function. No condition. -/
import Derived.Test.YtmejbfmhaoilmaaGreatDoorBase1
import Derived.Test.YtmejbfmhaoilmaaGreatDoorPart0
namespace Go.Proofs.YtmejbfmhaoilmaaGreatDoor
open Go Go.RowKit
set_option linter.unusedVariables false
set_option linter.unusedSimpArgs false
set_option maxHeartbeats 1000000
set_option maxRecDepth 20000
theorem aOa {w0:World}{S0:Bs}{x:aF}{ah:Addr} (h0:eV cR w0 (FF w0 S0) ah x):
    Calls Tryz.prog 87 #[.pointer (some ah)] w0 (aI w0 S0 (fun r l=>r= .int .i64 (gD x)∧l= [])):=by
 obtain⟨bq,ab,ba,ac⟩:=id h0
 obtain⟨bb,bc,rfl,au,av⟩:=bY ba
 obtain⟨bd,be,rfl,a0,a1,a2,ad⟩:=aD au
 obtain⟨bf,bg,rfl,a3,a4,a5,a6⟩:=aD av
 refine Y.enter (N:=78) Tryz.func87 rfl rfl (by simp) [(0,.pointer (some ah))] (by simp) (l0:= []) trivial ?_
 refine Y.seq (Y.region (Y.ql rfl (aA rfl .c) (Y.nt (Y.seq (Y.seq (Y.region (Y.mv rfl .g1 ?_)))))))
 refine Y.nc rfl .z (Y.fa rfl .z iZ (Y.le rfl bP .z ab ac ?_))
 refine Y.cl rfl rfl Tryz.func86 rfl rfl (eL (.t .z) .c .c) .n (fun _ _ hs tr=>yK _ _ _) ?_
 rintro _ _ ⟨rfl,rfl⟩
 refine Y.m .n ?_
 refine Y.ql rfl (fF rfl (.t .z)) (Y.mv rfl .z ?_)
 refine Y.an .z (fun g3=> ?_) (fun g3=> ?_)
 refine Y.r rfl rfl .z rfl rfl (by decide) rfl ?_
 refine Y.r rfl rfl .g1 rfl rfl (by decide) rfl ?_
 refine Y.r rfl rfl .g2 rfl rfl (by decide) rfl ?_
 refine Y.r rfl rfl .g3 rfl rfl (by decide) rfl ?_
 refine Y.r rfl rfl .g4 rfl rfl (by decide) rfl ?_
 refine Y.r rfl rfl .g5 rfl rfl (by decide) rfl ?_
 refine Y.ql rfl (bI rfl (.t .g6) .c) (Y.nt ?_)
 refine Y.aq (.t .z) ?_
 refine Y.seq (Y.region (Y.er .g14 (Y.ql rfl (aA rfl .c) (Y.nt (Y.ret (Y.j ?_))))))
 refine Y.i (aU rfl .z) .n ?_
 have ai:(1≤x.links∧x.links≤60)∨¬(1≤x.links∧x.links≤60):=Classical.em _;exact⟨by first |(rw [cW (by omega)];done) |(rw [cX ⟨by assumption,by assumption⟩ (by omega)];done) |(rw [cY ⟨by assumption,by assumption⟩ (by omega) (oW (fun j b hj hb=>hallk j b (by omega) hb)) (by rw [List.take_of_length_le (by omega)] at hnd;exact hnd)];done),rfl⟩
 refine Y.qg rfl rfl .z rfl rfl rfl (aR rfl (.t .g8)) ?_
 refine Y.qg rfl rfl .g1 rfl rfl rfl (dZ rfl (.t .z)) ?_
 refine Y.qg rfl rfl .g2 rfl rfl rfl (aN rfl (.t .z) (fun _=>gU _ _)) ?_
 refine Y.qg rfl rfl .g3 rfl rfl rfl (aM rfl bP (.t .z) (WS.el ab ac rfl)) ?_
 refine Y.call (eB rfl rfl .g4) rfl (by decide) rfl (bE rfl Tryz.func118 rfl rfl (bG (.t .z))) .n (fun _ _ hs tr=>aIf _) ?_
 rintro _ _ ⟨rfl,rfl⟩
 refine Y.m .n ?_
 refine Y.qg rfl rfl .g5 rfl rfl rfl (fF rfl (.t .z)) ?_
 refine Y.ql rfl (bH rfl (.t .g6) (.t .z)) (Y.nt ?_)
 refine Y.ac (.t .z) (fun b4=> ?_) (fun b4=> ?_)
 refine Y.seq (Y.region (Y.er .g14 (Y.ql rfl (aA rfl .c) (Y.nt (Y.ret (Y.j ?_))))))
 refine Y.i (aU rfl .z) .n ?_
 have ai:(1≤x.links∧x.links≤60)∨¬(1≤x.links∧x.links≤60):=Classical.em _;exact⟨by first |(rw [cW (by omega)];done) |(rw [cX ⟨by assumption,by assumption⟩ (by omega)];done) |(rw [cY ⟨by assumption,by assumption⟩ (by omega) (oW (fun j b hj hb=>hallk j b (by omega) hb)) (by rw [List.take_of_length_le (by omega)] at hnd;exact hnd)];done),rfl⟩
 refine Y.skip (Y.g (Y.seq (Y.seq ?_)))
 refine Y.dr .z 11 fR ?_
 refine Y.sc (qs 0 9++ [(9,false),(10,true)]) (by kernel_rfl) ?_
 refine Y.dm rfl rfl .z .g15 (Y.dn rfl rfl .z .z (Y.df rfl rfl .z .z dH (Y.de rfl rfl .z eZ .z ab ac (Y.dk rfl rfl .z (bD rfl eF (.t .z)) (Y.dm rfl rfl .z (.s16 .g4) (Y.dn rfl rfl .z .z (Y.df rfl rfl .z .z gU (Y.de rfl rfl .z bP .z ab ac ?_))))))))
 refine Y.call (aC rfl rfl) rfl (by decide) rfl (bE rfl Tryz.func59 rfl rfl (bG (.t .z))) .n (fun _ _ hs tr=>aIw _ (by omega) (by omega)) ?_
 rintro _ _ ⟨rfl,rfl⟩
 refine Y.m .n ?_
 refine Y.sk .z ?_
 refine Y.dk rfl rfl .z (bW rfl (.t .g5) (.t .z)) (Y.w ?_)
 refine Y.af (by kernel_rfl) ?_
 refine Y.g ?_
 refine Y.ac (.t .z) (fun b5=> ?_) (fun b5=> ?_)
 refine Y.seq (Y.region (Y.er (.s16 .g9) (Y.ql rfl (aA rfl .c) (Y.nt (Y.ret (Y.j ?_))))))
 refine Y.i (aU rfl .z) .n ?_
 have ai:(1≤x.links∧x.links≤60)∨¬(1≤x.links∧x.links≤60):=Classical.em _;exact⟨by first |(rw [cW (by omega)];done) |(rw [cX ⟨by assumption,by assumption⟩ (by omega)];done) |(rw [cY ⟨by assumption,by assumption⟩ (by omega) (oW (fun j b hj hb=>hallk j b (by omega) hb)) (by rw [List.take_of_length_le (by omega)] at hnd;exact hnd)];done),rfl⟩
 refine Y.skip (Y.g (Y.seq (Y.seq (Y.region (Y.ql rfl (aA rfl .c) (Y.nt (Y.block ?_)))))))
 refine Y.ai (γ:=Nat) (fun k=> [(3,.int .i64 (k:Int)),(0,.pointer (some ah))]) (fun k=> []) (fun k=>k≤x.blocks.length∧∀j b,j<k→x.blocks[j]? =some b→0≤b∧b≤19) (fun k=>x.blocks.length - k) 0 ⟨Nat.zero_le _,eN (q:=fun _ b=>(0:Int)≤b∧b≤19)⟩ (.c .z (.c (.s16 .g11) .n)) (fun _ h=>h) ?_
 rintro k ⟨hk,hallk⟩
 refine Y.seq (Y.seq (Y.region (Y.mv rfl .z (Y.mv rfl .g2 (Y.nc rfl .z (Y.fa rfl .z dH (Y.le rfl eZ .z ab ac (Y.ql rfl (bD rfl eF (.t .z)) ?_))))))))
 refine Y.ql rfl (dA rfl (.t .g5) (.t .z)) (Y.nt ?_)
 refine Y.u (.t .z) (fun b6=> ?_) (fun b6=> ?_)
 refine Y.skip (Y.g (Y.seq (Y.block (Y.seq (Y.region (Y.mv rfl .g8 (Y.nc rfl .z (Y.fa rfl .z dH ?_))))))))
 refine Y.le rfl eZ .z ab ac (Y.mv rfl .g11 ?_)
 obtain⟨br,aj,ak⟩:=ad (by omega)
 subst aj
 obtain⟨x8,aw⟩:=aK (xs:=x.blocks) (j:=k) (by omega)
 obtain⟨bh,ax,ay,az⟩:=ak.elem aw
 obtain⟨rfl,bs⟩:=ax
 refine Y.ql rfl (aB (j:=k) rfl eF jO (.t .g1) (.t .z) rfl (by omega)) ?_
 refine Y.ql rfl (aM rfl bP (.t .z) (WS.i ay az rfl)) ?_
 refine Y.cl rfl rfl Tryz.func86 rfl rfl (eL (.t .z) .c .c) .n (fun _ _ hs tr=>yK _ _ _) ?_
 rintro _ _ ⟨rfl,rfl⟩
 refine Y.m .n ?_
 refine Y.ql rfl (fF rfl (.t .z)) (Y.nt ?_)
 refine Y.ac (.t .z) (fun a7=> ?_) (fun a7=> ?_)
 refine Y.seq (Y.region (Y.ql rfl (aA rfl .c) (Y.nt (Y.ret (Y.v (Y.j (Y.j ?_)))))))
 refine Y.v (Y.j ?_)
 refine Y.i (aU rfl .z) .n ?_
 have ai:(1≤x.links∧x.links≤60)∨¬(1≤x.links∧x.links≤60):=Classical.em _;exact⟨by first |(rw [cW (by omega)];done) |(rw [cX ⟨by assumption,by assumption⟩ (by omega)];done) |(rw [dC ⟨by assumption,by assumption⟩ (by omega) (aFg aw (by assumption))];done) |(rw [cY ⟨by assumption,by assumption⟩ (by omega) (oW (fun j b hj hb=>hallk j b (by omega) hb)) (by rw [List.take_of_length_le (by omega)] at hnd;exact hnd)];done),rfl⟩
 refine Y.skip (Y.ab (Y.g (Y.region (Y.mv rfl .g16 ?_))))
 refine Y.ql rfl (bN (c:=((k+1:Nat):Int)) rfl (.t .z) .c (wr (by omega) (by omega) (by omega))) ?_
 refine Y.er (.s16 .g2) (Y.as rfl .z (Y.nil ?_))
 refine Y.ae (k+1) ⟨by omega,dS (q:=fun _ b=>(0:Int)≤b∧b≤19) hallk aw a7⟩ (by first | omega |(dsimp only;omega)) (.c .z (.c (.s16 .g3) .n)) (fun _ h=>h)
 refine Y.exit (Y.y (Y.y (Y.ag (Y.g (Y.seq (Y.seq (Y.region (Y.ql rfl (aA rfl .c) ?_))))))))
 refine Y.nt (Y.block ?_)
 refine Y.ai (γ:=Nat) (fun i=> [(4,.int .i64 (i:Int)),(0,.pointer (some ah))]) (fun i=> []) (fun i=>i≤x.blocks.length∧(x.blocks.take i).Nodup) (fun i=>x.blocks.length - i) 0 ⟨Nat.zero_le _,List.Pairwise.nil⟩ (.c .z (.c .g9 .n)) (fun _ h=>h) ?_
 rintro i ⟨hi,hnd⟩
 refine Y.seq (Y.seq (Y.region (Y.mv rfl .z (Y.mv rfl .g2 (Y.nc rfl .z (Y.fa rfl .z dH (Y.le rfl eZ .z ab ac (Y.ql rfl (bD rfl eF (.t .z)) ?_))))))))
 refine Y.ql rfl (dA rfl (.t .g5) (.t .z)) (Y.nt ?_)
 refine Y.u (.t .z) (fun bi=> ?_) (fun bi=> ?_)
 refine Y.skip (Y.g (Y.seq (Y.block (Y.seq (Y.region (Y.ql rfl (aA rfl .c) (Y.nt ?_)))))))
 refine Y.block ?_
 obtain⟨bj,ae,aa⟩:=ad (by omega)
 subst ae
 obtain⟨ar,af⟩:=aK (xs:=x.blocks) (j:=i) (by omega)
 obtain⟨a8,al,am,an⟩:=aa.elem af
 obtain⟨rfl,bk⟩:=al
 refine Y.ai (γ:=Nat) (fun j=> [(5,.int .i64 (j:Int)),(4,.int .i64 (i:Int)),(0,.pointer (some ah))]) (fun j=> []) (fun j=>j≤i∧∀r y,r<j→x.blocks[r]? =some y→¬y=ar) (fun j=>i - j) 0 ⟨Nat.zero_le _,eN (q:=fun _ y=>¬y=ar)⟩ (.c .z (.c .g8 (.c .g9 .n))) (fun _ h=>h) ?_
 rintro j ⟨hj,hallj⟩
 refine Y.seq (Y.seq (Y.region (Y.mv rfl .z (Y.mv rfl .g2 (Y.ql rfl (dA rfl (.t .g1) (.t .z)) (Y.nt ?_))))))
 refine Y.u (.t .z) (fun bm=> ?_) (fun bm=> ?_)
 refine Y.skip (Y.g (Y.seq (Y.block (Y.seq ?_))))
 refine Y.dr .z 15 fR ?_
 refine Y.sc (qs 0 15) (by kernel_rfl) ?_
 refine Y.dm rfl rfl .z .g5 (Y.dn rfl rfl .z .z (Y.df rfl rfl .z .z dH (Y.de rfl rfl .z eZ .z ab ac (Y.dm rfl rfl .z .g7 ?_))))
 obtain⟨bn,ag⟩:=aK (xs:=x.blocks) (j:=j) (by omega)
 obtain⟨a9,ao,ap,aq⟩:=aa.elem ag
 obtain⟨rfl,bo⟩:=ao
 refine Y.dk rfl rfl .z (aB (j:=j) rfl eF jO (.t .g1) (.t .z) rfl (by omega)) ?_
 refine Y.dk rfl rfl .z (aM rfl bP (.t .z) (WS.i ap aq rfl)) (Y.dm rfl rfl .z .g12 (Y.dn rfl rfl .z .z (Y.df rfl rfl .z .z dH (Y.de rfl rfl .z eZ .z ab ac (Y.dm rfl rfl .z .g15 ?_)))))
 refine Y.dk rfl rfl .z (aB (j:=i) rfl eF jO (.t .g1) (.t .z) rfl (by omega)) ?_
 refine Y.dk rfl rfl .z (aM rfl bP (.t .z) (WS.i am an rfl)) (Y.dk rfl rfl .z (bU rfl (.t .g7) (.t .z)) (Y.w ?_))
 refine Y.af (by kernel_rfl) ?_
 refine Y.g ?_
 refine Y.u (.t .z) (fun bp=> ?_) (fun bp=> ?_)
 refine Y.seq (Y.region (Y.ql rfl (aA rfl .c) (Y.nt (Y.ret (Y.v (Y.j (Y.j ?_)))))))
 refine Y.v (Y.v (Y.j (Y.j (Y.v (Y.j ?_)))))
 refine Y.i (aU rfl .z) .n ?_
 have ai:(1≤x.links∧x.links≤60)∨¬(1≤x.links∧x.links≤60):=Classical.em _;exact⟨by first |(rw [cW (by omega)];done) |(rw [cX ⟨by assumption,by assumption⟩ (by omega)];done) |(rw [vR ⟨by assumption,by assumption⟩ (by omega) (oW (fun j b hj hb=>hallk j b (by omega) hb)) (zI af ((show bn=ar by assumption) ▸ aB4 ag (by omega)))];done) |(rw [cY ⟨by assumption,by assumption⟩ (by omega) (oW (fun j b hj hb=>hallk j b (by omega) hb)) (by rw [List.take_of_length_le (by omega)] at hnd;exact hnd)];done),rfl⟩
 refine Y.skip (Y.ab (Y.g (Y.region (Y.mv rfl (.s16 .g2) ?_))))
 refine Y.ql rfl (bN (c:=((j+1:Nat):Int)) rfl (.t .z) .c (wr (by omega) (by omega) (by omega))) ?_
 refine Y.er (.s16 .g4) (Y.as rfl .z (Y.nil ?_))
 refine Y.ae (j+1) ⟨by omega,dS (q:=fun _ y=>¬y=ar) hallj ag (by assumption)⟩ (by first | omega |(dsimp only;omega)) (.c .z (.c (.s16 .g5) (.c (.s16 .g6) .n))) (fun _ h=>h)
 refine Y.exit (Y.y (Y.y (Y.ag (Y.ab (Y.g (Y.region (Y.mv rfl .g4 ?_)))))))
 refine Y.ql rfl (bN (c:=((i+1:Nat):Int)) rfl (.t .z) .c (wr (by omega) (by omega) (by omega))) ?_
 refine Y.er .g6 (Y.as rfl .z (Y.nil ?_))
 refine Y.ae (i+1) ⟨by omega,aEy hnd af (tO (fun j y hj hy=>hallj j y (by omega) hy))⟩ (by first | omega |(dsimp only;omega)) (.c .z (.c .g7 .n)) (fun _ h=>h)
 refine Y.exit (Y.y (Y.y (Y.ag (Y.g (Y.seq (Y.region (Y.ql rfl (aA rfl .c) (Y.nil ?_))))))))
 refine Y.g (Y.ret ?_)
 refine Y.i (aU rfl .z) .n ?_
 have ai:(1≤x.links∧x.links≤60)∨¬(1≤x.links∧x.links≤60):=Classical.em _;exact⟨by first |(rw [cW (by omega)];done) |(rw [cX ⟨by assumption,by assumption⟩ (by omega)];done) |(rw [cY ⟨by assumption,by assumption⟩ (by omega) (oW (fun j b hj hb=>hallk j b (by omega) hb)) (by rw [List.take_of_length_le (by omega)] at hnd;exact hnd)];done),rfl⟩

theorem zP {w0:World}{S0:Bs}{x:aF}{ar:List Value} (h0:cR.ro w0 (FF w0 S0) x ar):
    Calls Tryz.prog 141 #[.agg ar.toArray] w0 (aI w0 S0 (fun r l=>r= .int .i64 (gD x)∧l= [])):=by
 obtain⟨a2,a3,rfl,aa,ap⟩:=bY h0
 obtain⟨ad,ac,rfl,au,av,aw,ak⟩:=aD aa
 obtain⟨ae,af,rfl,ax,ay,az,a0⟩:=aD ap
 refine Y.enter (N:=43) Tryz.func141 rfl rfl (by simp) [(0,.agg #[.int .i64 x.kind,.int .i64 x.links,.int .i64 x.size,.slice ad x.blocks.length ac,.slice ae x.ents.length af])] (by simp) (l0:= []) trivial ?_
 refine Y.seq (Y.region ?_)
 refine Y.el rfl (fQ (cs:= [.int .i64 x.kind,.int .i64 x.links,.int .i64 x.size,.slice ad x.blocks.length ac,.slice ae x.ents.length af]) (n:=5) rfl (.t .z) rfl rfl) ?_
 rintro _ _ ⟨g3,rfl,rfl⟩
 refine Y.ql rfl (aA rfl .c) (Y.nt ?_)
 refine Y.aw (γ:=Unit) (fun _u=> [(2,.int .i64 0),(1,.pointer (some ⟨g3,0,none⟩))]) (fun _u=> [bV g3 46 5 1 [.int .i64 x.kind,.int .i64 x.links,.int .i64 x.size,.slice ad x.blocks.length ac,.slice ae x.ents.length af]]) (fun _u=>((1≤x.links∧x.links≤60)∧(0≤x.size∧x.size≤32))∧(x.blocks.length:Int)=(x.size+7) / 8∧x.blocks.any (fun b=> !decide (0≤b∧b≤19))=false) ?_ ?_
 refine Y.block (Y.seq (Y.region (Y.fa rfl .g1 iZ (Y.ld rfl bP .z .z ?_))))
 refine Y.cl rfl rfl Tryz.func48 rfl rfl (eL (.t .z) .c .c) .n (fun _ _ hs tr=>aBe _ _ _) ?_
 rintro _ _ ⟨rfl,rfl⟩
 refine Y.m .n ?_
 refine Y.ql rfl (fF rfl (.t .z)) (Y.mv rfl .z ?_)
 refine Y.an .z (fun g4=> ?_) (fun g4=> ?_)
 refine Y.r rfl rfl .z rfl rfl (by decide) rfl ?_
 refine Y.r rfl rfl .g1 rfl rfl (by decide) rfl ?_
 refine Y.r rfl rfl .g2 rfl rfl (by decide) rfl ?_
 refine Y.r rfl rfl .g3 rfl rfl (by decide) rfl ?_
 refine Y.ql rfl (bI rfl (.t .g4) .c) (Y.as rfl .z (Y.nt ?_))
 refine Y.aq (.t .z) ?_
 refine Y.seq (Y.region (Y.er .g11 (Y.ql rfl (aA rfl .c) (Y.nt (Y.ret (Y.v (Y.j ?_)))))))
 refine Y.i (aU rfl .z) .n ?_
 have ab:(1≤x.links∧x.links≤60)∨¬(1≤x.links∧x.links≤60):=Classical.em _;exact⟨by first |(rw [cW (by omega)];done) |(rw [cX ⟨by assumption,by assumption⟩ (by omega)];done) |(rw [dC ⟨by assumption,by assumption⟩ (by omega) (by assumption)];done) |(rw [cY ⟨by assumption,by assumption⟩ (by omega) (by assumption) (by rw [List.take_of_length_le (by omega)] at hnd;exact hnd)];done),rfl⟩
 refine Y.qg rfl rfl .z rfl rfl rfl (aN rfl (.t .g6) (fun _=>gU _ _)) ?_
 refine Y.qg rfl rfl .g1 rfl rfl rfl (aM rfl bP (.t .z) (WS.g .z rfl)) ?_
 refine Y.call (eB rfl rfl .g2) rfl (by decide) rfl (bE rfl Tryz.func48 rfl rfl (eL (.t .z) .c .c)) .n (fun _ _ hs tr=>aBe _ _ _) ?_
 rintro _ _ ⟨rfl,rfl⟩
 refine Y.m .n ?_
 refine Y.qg rfl rfl .g3 rfl rfl rfl (fF rfl (.t .z)) ?_
 refine Y.ql rfl (bH rfl (.t .g4) (.t .z)) (Y.as rfl .z (Y.nt ?_))
 refine Y.ac (.t .z) (fun b5=> ?_) (fun b5=> ?_)
 refine Y.seq (Y.region (Y.er .g11 (Y.ql rfl (aA rfl .c) (Y.nt (Y.ret (Y.v (Y.j ?_)))))))
 refine Y.i (aU rfl .z) .n ?_
 have ab:(1≤x.links∧x.links≤60)∨¬(1≤x.links∧x.links≤60):=Classical.em _;exact⟨by first |(rw [cW (by omega)];done) |(rw [cX ⟨by assumption,by assumption⟩ (by omega)];done) |(rw [dC ⟨by assumption,by assumption⟩ (by omega) (by assumption)];done) |(rw [cY ⟨by assumption,by assumption⟩ (by omega) (by assumption) (by rw [List.take_of_length_le (by omega)] at hnd;exact hnd)];done),rfl⟩
 refine Y.seq ?_
 refine Y.dr .z 7 fR ?_
 refine Y.sc [] (by kernel_rfl) ?_
 refine Y.w ?_
 refine Y.ar (i:=0) (j:=3) (by kernel_rfl) ?_ ?_
 refine Y.q (aC rfl rfl) rfl (by decide) rfl (aN rfl (.t .g12) (fun _=>dH _ _)) ?_
 refine Y.sk .z ?_
 refine Y.w ?_
 refine Y.sc [] (by kernel_rfl) ?_
 refine Y.w ?_
 refine Y.ar (i:=1) (j:=3) (by kernel_rfl) ?_ ?_
 refine Y.q (aC rfl rfl) rfl (by decide) rfl (aM rfl eZ (.t .z) (WS.g .z rfl)) ?_
 refine Y.sk .z ?_
 refine Y.w ?_
 refine Y.sc [] (by kernel_rfl) ?_
 refine Y.w ?_
 refine Y.ar (i:=2) (j:=3) (by kernel_rfl) ?_ ?_
 refine Y.call (aC rfl rfl) rfl (by decide) rfl (bE rfl Tryz.func168 rfl rfl (bG (.t .z))) .n (fun _ _ hs tr=>sC (tr.ctx aa)) ?_
 rintro _ _ ⟨rfl,rfl⟩
 refine Y.m .n ?_
 refine Y.sk .z ?_
 refine Y.w ?_
 refine Y.sc [(3,false),(4,false),(5,false),(6,true),(7,false)] (by kernel_rfl) ?_
 refine Y.q (aC rfl rfl) rfl (by decide) rfl (aN rfl (.t .g15) (fun _=>gU _ _)) ?_
 refine Y.sk .z ?_
 refine Y.q (aC rfl rfl) rfl (by decide) rfl (aM rfl bP (.t .z) (WS.g .z rfl)) ?_
 refine Y.sk .z ?_
 refine Y.call (aC rfl rfl) rfl (by decide) rfl (bE rfl Tryz.func169 rfl rfl (bG (.t .z))) .n (fun _ _ hs tr=>sI _ (by omega) (by omega)) ?_
 rintro _ _ ⟨rfl,rfl⟩
 refine Y.m .n ?_
 refine Y.sk .z ?_
 refine Y.dk rfl rfl .z (bW rfl (.t .g3) (.t .z)) ?_
 refine Y.q (aC rfl rfl) rfl (by decide) rfl (aA rfl (.t .z)) ?_
 refine Y.sl rfl ?_
 refine Y.w ?_
 refine Y.af (by kernel_rfl) ?_
 refine Y.g ?_
 refine Y.ac (.t .z) (fun b6=> ?_) (fun b6=> ?_)
 refine Y.seq (Y.region (Y.er (.s16 .g3) (Y.ql rfl (aA rfl .c) (Y.nt (Y.ret (Y.v (Y.j ?_)))))))
 refine Y.i (aU rfl .z) .n ?_
 have ab:(1≤x.links∧x.links≤60)∨¬(1≤x.links∧x.links≤60):=Classical.em _;exact⟨by first |(rw [cW (by omega)];done) |(rw [cX ⟨by assumption,by assumption⟩ (by omega)];done) |(rw [dC ⟨by assumption,by assumption⟩ (by omega) (by assumption)];done) |(rw [cY ⟨by assumption,by assumption⟩ (by omega) (by assumption) (by rw [List.take_of_length_le (by omega)] at hnd;exact hnd)];done),rfl⟩
 refine Y.seq (Y.region (Y.fa rfl (.s16 .g4) dH (Y.ld rfl eZ .z .z ?_)))
 refine Y.cl rfl rfl Tryz.func170 rfl rfl (aS (.t .z) .f) .n (fun _ _ hs tr=>sK (tr.ctx aa) Tryz.func171 rfl rfl (fun w2 S2 h2 x=>sF x)) ?_
 rintro _ _ ⟨rfl,rfl⟩
 refine Y.m .n ?_
 refine Y.as rfl .z (Y.nt ?_)
 refine Y.cond (.t .z) (fun b7=> ?_) (fun b7=> ?_)
 refine Y.seq (Y.region (Y.er (.s16 .g7) (Y.ql rfl (aA rfl .c) (Y.nt (Y.ret (Y.v (Y.j ?_)))))))
 refine Y.i (aU rfl .z) .n ?_
 have ab:(1≤x.links∧x.links≤60)∨¬(1≤x.links∧x.links≤60):=Classical.em _;exact⟨by first |(rw [cW (by omega)];done) |(rw [cX ⟨by assumption,by assumption⟩ (by omega)];done) |(rw [dC ⟨by assumption,by assumption⟩ (by omega) (by assumption)];done) |(rw [cY ⟨by assumption,by assumption⟩ (by omega) (by assumption) (by rw [List.take_of_length_le (by omega)] at hnd;exact hnd)];done),rfl⟩
 refine Y.skip (Y.ab ?_)
 exact Y.ao () ⟨⟨by assumption,by assumption⟩,by omega,by assumption⟩ (.c (.s16 .g7) (.c (.s16 .g8) .n)) (fun _ h=>h.sel (.c .z .n))
 refine Y.q (aC rfl rfl) rfl (by decide) rfl (aN rfl (.t .g14) (fun _=>gU _ _)) ?_
 refine Y.sk .z ?_
 refine Y.w ?_
 refine Y.sc [] (by kernel_rfl) ?_
 refine Y.w ?_
 refine Y.ar (i:=2) (j:=4) (by kernel_rfl) ?_ ?_
 refine Y.call (aC rfl rfl) rfl (by decide) rfl (bE rfl Tryz.func168 rfl rfl (bG (.t .g1))) .n (fun _ _ hs tr=>sC (tr.ctx aa)) ?_
 rintro _ _ ⟨rfl,rfl⟩
 refine Y.m .n ?_
 refine Y.sk .z ?_
 refine Y.w ?_
 refine Y.sc [(4,false),(5,false),(6,true),(7,false)] (by kernel_rfl) ?_
 refine Y.q (aC rfl rfl) rfl (by decide) rfl (aM rfl bP (.t .g1) (WS.g .z rfl)) ?_
 refine Y.sk .z ?_
 refine Y.call (aC rfl rfl) rfl (by decide) rfl (bE rfl Tryz.func169 rfl rfl (bG (.t .z))) .n (fun _ _ hs tr=>sI _ (by omega) (by omega)) ?_
 rintro _ _ ⟨rfl,rfl⟩
 refine Y.m .n ?_
 refine Y.sk .z ?_
 refine Y.dk rfl rfl .z (bW rfl (.t .g2) (.t .z)) ?_
 refine Y.q (aC rfl rfl) rfl (by decide) rfl (aA rfl (.t .z)) ?_
 refine Y.sl rfl ?_
 refine Y.w ?_
 refine Y.af (by kernel_rfl) ?_
 refine Y.g ?_
 refine Y.ac (.t .z) (fun b8=> ?_) (fun b8=> ?_)
 refine Y.seq (Y.region (Y.er (.s16 .g3) (Y.ql rfl (aA rfl .c) (Y.nt (Y.ret (Y.v (Y.j ?_)))))))
 refine Y.i (aU rfl .z) .n ?_
 have ab:(1≤x.links∧x.links≤60)∨¬(1≤x.links∧x.links≤60):=Classical.em _;exact⟨by first |(rw [cW (by omega)];done) |(rw [cX ⟨by assumption,by assumption⟩ (by omega)];done) |(rw [dC ⟨by assumption,by assumption⟩ (by omega) (by assumption)];done) |(rw [cY ⟨by assumption,by assumption⟩ (by omega) (by assumption) (by rw [List.take_of_length_le (by omega)] at hnd;exact hnd)];done),rfl⟩
 refine Y.seq (Y.region (Y.fa rfl (.s16 .g4) dH (Y.ld rfl eZ .z .z ?_)))
 refine Y.cl rfl rfl Tryz.func170 rfl rfl (aS (.t .z) .f) .n (fun _ _ hs tr=>sK (tr.ctx aa) Tryz.func171 rfl rfl (fun w2 S2 h2 x=>sF x)) ?_
 rintro _ _ ⟨rfl,rfl⟩
 refine Y.m .n ?_
 refine Y.as rfl .z (Y.nt ?_)
 refine Y.cond (.t .z) (fun b9=> ?_) (fun b9=> ?_)
 refine Y.seq (Y.region (Y.er (.s16 .g7) (Y.ql rfl (aA rfl .c) (Y.nt (Y.ret (Y.v (Y.j ?_)))))))
 refine Y.i (aU rfl .z) .n ?_
 have ab:(1≤x.links∧x.links≤60)∨¬(1≤x.links∧x.links≤60):=Classical.em _;exact⟨by first |(rw [cW (by omega)];done) |(rw [cX ⟨by assumption,by assumption⟩ (by omega)];done) |(rw [dC ⟨by assumption,by assumption⟩ (by omega) (by assumption)];done) |(rw [cY ⟨by assumption,by assumption⟩ (by omega) (by assumption) (by rw [List.take_of_length_le (by omega)] at hnd;exact hnd)];done),rfl⟩
 refine Y.skip (Y.ab ?_)
 exact Y.ao () ⟨⟨by assumption,by assumption⟩,by omega,by assumption⟩ (.c (.s16 .g7) (.c (.s16 .g8) .n)) (fun _ h=>h.sel (.c .z .n))
 refine Y.q (aC rfl rfl) rfl (by decide) rfl (aM rfl bP (.t .z) (WS.g .z rfl)) ?_
 refine Y.sk .z ?_
 refine Y.w ?_
 refine Y.sc [(2,false),(5,false),(6,true),(7,false)] (by kernel_rfl) ?_
 refine Y.call (aC rfl rfl) rfl (by decide) rfl (bE rfl Tryz.func168 rfl rfl (bG (.t .g2))) .n (fun _ _ hs tr=>sC (tr.ctx aa)) ?_
 rintro _ _ ⟨rfl,rfl⟩
 refine Y.m .n ?_
 refine Y.sk .z ?_
 refine Y.call (aC rfl rfl) rfl (by decide) rfl (bE rfl Tryz.func169 rfl rfl (bG (.t .g1))) .n (fun _ _ hs tr=>sI _ (by omega) (by omega)) ?_
 rintro _ _ ⟨rfl,rfl⟩
 refine Y.m .n ?_
 refine Y.sk .z ?_
 refine Y.dk rfl rfl .z (bW rfl (.t .g1) (.t .z)) ?_
 refine Y.q (aC rfl rfl) rfl (by decide) rfl (aA rfl (.t .z)) ?_
 refine Y.sl rfl ?_
 refine Y.w ?_
 refine Y.af (by kernel_rfl) ?_
 refine Y.g ?_
 refine Y.ac (.t .z) (fun a4=> ?_) (fun a4=> ?_)
 refine Y.seq (Y.region (Y.er (.s16 .g3) (Y.ql rfl (aA rfl .c) (Y.nt (Y.ret (Y.v (Y.j ?_)))))))
 refine Y.i (aU rfl .z) .n ?_
 have ab:(1≤x.links∧x.links≤60)∨¬(1≤x.links∧x.links≤60):=Classical.em _;exact⟨by first |(rw [cW (by omega)];done) |(rw [cX ⟨by assumption,by assumption⟩ (by omega)];done) |(rw [dC ⟨by assumption,by assumption⟩ (by omega) (by assumption)];done) |(rw [cY ⟨by assumption,by assumption⟩ (by omega) (by assumption) (by rw [List.take_of_length_le (by omega)] at hnd;exact hnd)];done),rfl⟩
 refine Y.seq (Y.region (Y.fa rfl (.s16 .g4) dH (Y.ld rfl eZ .z .z ?_)))
 refine Y.cl rfl rfl Tryz.func170 rfl rfl (aS (.t .z) .f) .n (fun _ _ hs tr=>sK (tr.ctx aa) Tryz.func171 rfl rfl (fun w2 S2 h2 x=>sF x)) ?_
 rintro _ _ ⟨rfl,rfl⟩
 refine Y.m .n ?_
 refine Y.as rfl .z (Y.nt ?_)
 refine Y.cond (.t .z) (fun a5=> ?_) (fun a5=> ?_)
 refine Y.seq (Y.region (Y.er (.s16 .g7) (Y.ql rfl (aA rfl .c) (Y.nt (Y.ret (Y.v (Y.j ?_)))))))
 refine Y.i (aU rfl .z) .n ?_
 have ab:(1≤x.links∧x.links≤60)∨¬(1≤x.links∧x.links≤60):=Classical.em _;exact⟨by first |(rw [cW (by omega)];done) |(rw [cX ⟨by assumption,by assumption⟩ (by omega)];done) |(rw [dC ⟨by assumption,by assumption⟩ (by omega) (by assumption)];done) |(rw [cY ⟨by assumption,by assumption⟩ (by omega) (by assumption) (by rw [List.take_of_length_le (by omega)] at hnd;exact hnd)];done),rfl⟩
 refine Y.skip (Y.ab ?_)
 exact Y.ao () ⟨⟨by assumption,by assumption⟩,by omega,by assumption⟩ (.c (.s16 .g7) (.c (.s16 .g8) .n)) (fun _ h=>h.sel (.c .z .n))
 refine Y.q (aC rfl rfl) rfl (by decide) rfl (aN rfl (.t .g13) (fun _=>gU _ _)) ?_
 refine Y.sk .z ?_
 refine Y.w ?_
 refine Y.sc [] (by kernel_rfl) ?_
 refine Y.w ?_
 refine Y.ar (i:=1) (j:=4) (by kernel_rfl) ?_ ?_
 refine Y.q (aC rfl rfl) rfl (by decide) rfl (aM rfl eZ (.t .g1) (WS.g .z rfl)) ?_
 refine Y.sk .z ?_
 refine Y.w ?_
 refine Y.sc [] (by kernel_rfl) ?_
 refine Y.w ?_
 refine Y.ar (i:=2) (j:=4) (by kernel_rfl) ?_ ?_
 refine Y.call (aC rfl rfl) rfl (by decide) rfl (bE rfl Tryz.func168 rfl rfl (bG (.t .z))) .n (fun _ _ hs tr=>sC (tr.ctx aa)) ?_
 rintro _ _ ⟨rfl,rfl⟩
 refine Y.m .n ?_
 refine Y.sk .z ?_
 refine Y.w ?_
 refine Y.sc [(4,false),(5,false),(6,true),(7,false)] (by kernel_rfl) ?_
 refine Y.q (aC rfl rfl) rfl (by decide) rfl (aM rfl bP (.t .g2) (WS.g .z rfl)) ?_
 refine Y.sk .z ?_
 refine Y.call (aC rfl rfl) rfl (by decide) rfl (bE rfl Tryz.func169 rfl rfl (bG (.t .z))) .n (fun _ _ hs tr=>sI _ (by omega) (by omega)) ?_
 rintro _ _ ⟨rfl,rfl⟩
 refine Y.m .n ?_
 refine Y.sk .z ?_
 refine Y.dk rfl rfl .z (bW rfl (.t .g2) (.t .z)) ?_
 refine Y.q (aC rfl rfl) rfl (by decide) rfl (aA rfl (.t .z)) ?_
 refine Y.sl rfl ?_
 refine Y.w ?_
 refine Y.af (by kernel_rfl) ?_
 refine Y.g ?_
 refine Y.ac (.t .z) (fun a6=> ?_) (fun a6=> ?_)
 refine Y.seq (Y.region (Y.er (.s16 .g3) (Y.ql rfl (aA rfl .c) (Y.nt (Y.ret (Y.v (Y.j ?_)))))))
 refine Y.i (aU rfl .z) .n ?_
 have ab:(1≤x.links∧x.links≤60)∨¬(1≤x.links∧x.links≤60):=Classical.em _;exact⟨by first |(rw [cW (by omega)];done) |(rw [cX ⟨by assumption,by assumption⟩ (by omega)];done) |(rw [dC ⟨by assumption,by assumption⟩ (by omega) (by assumption)];done) |(rw [cY ⟨by assumption,by assumption⟩ (by omega) (by assumption) (by rw [List.take_of_length_le (by omega)] at hnd;exact hnd)];done),rfl⟩
 refine Y.seq (Y.region (Y.fa rfl (.s16 .g4) dH (Y.ld rfl eZ .z .z ?_)))
 refine Y.cl rfl rfl Tryz.func170 rfl rfl (aS (.t .z) .f) .n (fun _ _ hs tr=>sK (tr.ctx aa) Tryz.func171 rfl rfl (fun w2 S2 h2 x=>sF x)) ?_
 rintro _ _ ⟨rfl,rfl⟩
 refine Y.m .n ?_
 refine Y.as rfl .z (Y.nt ?_)
 refine Y.cond (.t .z) (fun a7=> ?_) (fun a7=> ?_)
 refine Y.seq (Y.region (Y.er (.s16 .g7) (Y.ql rfl (aA rfl .c) (Y.nt (Y.ret (Y.v (Y.j ?_)))))))
 refine Y.i (aU rfl .z) .n ?_
 have ab:(1≤x.links∧x.links≤60)∨¬(1≤x.links∧x.links≤60):=Classical.em _;exact⟨by first |(rw [cW (by omega)];done) |(rw [cX ⟨by assumption,by assumption⟩ (by omega)];done) |(rw [dC ⟨by assumption,by assumption⟩ (by omega) (by assumption)];done) |(rw [cY ⟨by assumption,by assumption⟩ (by omega) (by assumption) (by rw [List.take_of_length_le (by omega)] at hnd;exact hnd)];done),rfl⟩
 refine Y.skip (Y.ab ?_)
 exact Y.ao () ⟨⟨by assumption,by assumption⟩,by omega,by assumption⟩ (.c (.s16 .g7) (.c (.s16 .g8) .n)) (fun _ h=>h.sel (.c .z .n))
 refine Y.q (aC rfl rfl) rfl (by decide) rfl (aM rfl bP (.t .g1) (WS.g .z rfl)) ?_
 refine Y.sk .z ?_
 refine Y.w ?_
 refine Y.sc [(2,false),(5,false),(6,true),(7,false)] (by kernel_rfl) ?_
 refine Y.call (aC rfl rfl) rfl (by decide) rfl (bE rfl Tryz.func168 rfl rfl (bG (.t .g1))) .n (fun _ _ hs tr=>sC (tr.ctx aa)) ?_
 rintro _ _ ⟨rfl,rfl⟩
 refine Y.m .n ?_
 refine Y.sk .z ?_
 refine Y.call (aC rfl rfl) rfl (by decide) rfl (bE rfl Tryz.func169 rfl rfl (bG (.t .g1))) .n (fun _ _ hs tr=>sI _ (by omega) (by omega)) ?_
 rintro _ _ ⟨rfl,rfl⟩
 refine Y.m .n ?_
 refine Y.sk .z ?_
 refine Y.dk rfl rfl .z (bW rfl (.t .g1) (.t .z)) ?_
 refine Y.q (aC rfl rfl) rfl (by decide) rfl (aA rfl (.t .z)) ?_
 refine Y.sl rfl ?_
 refine Y.w ?_
 refine Y.af (by kernel_rfl) ?_
 refine Y.g ?_
 refine Y.ac (.t .z) (fun a8=> ?_) (fun a8=> ?_)
 refine Y.seq (Y.region (Y.er (.s16 .g3) (Y.ql rfl (aA rfl .c) (Y.nt (Y.ret (Y.v (Y.j ?_)))))))
 refine Y.i (aU rfl .z) .n ?_
 have ab:(1≤x.links∧x.links≤60)∨¬(1≤x.links∧x.links≤60):=Classical.em _;exact⟨by first |(rw [cW (by omega)];done) |(rw [cX ⟨by assumption,by assumption⟩ (by omega)];done) |(rw [dC ⟨by assumption,by assumption⟩ (by omega) (by assumption)];done) |(rw [cY ⟨by assumption,by assumption⟩ (by omega) (by assumption) (by rw [List.take_of_length_le (by omega)] at hnd;exact hnd)];done),rfl⟩
 refine Y.seq (Y.region (Y.fa rfl (.s16 .g4) dH (Y.ld rfl eZ .z .z ?_)))
 refine Y.cl rfl rfl Tryz.func170 rfl rfl (aS (.t .z) .f) .n (fun _ _ hs tr=>sK (tr.ctx aa) Tryz.func171 rfl rfl (fun w2 S2 h2 x=>sF x)) ?_
 rintro _ _ ⟨rfl,rfl⟩
 refine Y.m .n ?_
 refine Y.as rfl .z (Y.nt ?_)
 refine Y.cond (.t .z) (fun a9=> ?_) (fun a9=> ?_)
 refine Y.seq (Y.region (Y.er (.s16 .g7) (Y.ql rfl (aA rfl .c) (Y.nt (Y.ret (Y.v (Y.j ?_)))))))
 refine Y.i (aU rfl .z) .n ?_
 have ab:(1≤x.links∧x.links≤60)∨¬(1≤x.links∧x.links≤60):=Classical.em _;exact⟨by first |(rw [cW (by omega)];done) |(rw [cX ⟨by assumption,by assumption⟩ (by omega)];done) |(rw [dC ⟨by assumption,by assumption⟩ (by omega) (by assumption)];done) |(rw [cY ⟨by assumption,by assumption⟩ (by omega) (by assumption) (by rw [List.take_of_length_le (by omega)] at hnd;exact hnd)];done),rfl⟩
 refine Y.skip (Y.ab ?_)
 exact Y.ao () ⟨⟨by assumption,by assumption⟩,by omega,by assumption⟩ (.c (.s16 .g7) (.c (.s16 .g8) .n)) (fun _ h=>h.sel (.c .z .n))
 refine Y.q (aC rfl rfl) rfl (by decide) rfl (aM rfl bP (.t .z) (WS.g .z rfl)) ?_
 refine Y.sk .z ?_
 refine Y.w ?_
 refine Y.sc [(1,false),(2,false),(5,false),(6,true),(7,false)] (by kernel_rfl) ?_
 refine Y.q (aC rfl rfl) rfl (by decide) rfl (aM rfl eZ (.t .g2) (WS.g .z rfl)) ?_
 refine Y.sk .z ?_
 refine Y.call (aC rfl rfl) rfl (by decide) rfl (bE rfl Tryz.func168 rfl rfl (bG (.t .z))) .n (fun _ _ hs tr=>sC (tr.ctx aa)) ?_
 rintro _ _ ⟨rfl,rfl⟩
 refine Y.m .n ?_
 refine Y.sk .z ?_
 refine Y.call (aC rfl rfl) rfl (by decide) rfl (bE rfl Tryz.func169 rfl rfl (bG (.t .g2))) .n (fun _ _ hs tr=>sI _ (by omega) (by omega)) ?_
 rintro _ _ ⟨rfl,rfl⟩
 refine Y.m .n ?_
 refine Y.sk .z ?_
 refine Y.dk rfl rfl .z (bW rfl (.t .g1) (.t .z)) ?_
 refine Y.q (aC rfl rfl) rfl (by decide) rfl (aA rfl (.t .z)) ?_
 refine Y.sl rfl ?_
 refine Y.w ?_
 refine Y.af (by kernel_rfl) ?_
 refine Y.g ?_
 refine Y.ac (.t .z) (fun ba=> ?_) (fun ba=> ?_)
 refine Y.seq (Y.region (Y.er (.s16 .g3) (Y.ql rfl (aA rfl .c) (Y.nt (Y.ret (Y.v (Y.j ?_)))))))
 refine Y.i (aU rfl .z) .n ?_
 have ab:(1≤x.links∧x.links≤60)∨¬(1≤x.links∧x.links≤60):=Classical.em _;exact⟨by first |(rw [cW (by omega)];done) |(rw [cX ⟨by assumption,by assumption⟩ (by omega)];done) |(rw [dC ⟨by assumption,by assumption⟩ (by omega) (by assumption)];done) |(rw [cY ⟨by assumption,by assumption⟩ (by omega) (by assumption) (by rw [List.take_of_length_le (by omega)] at hnd;exact hnd)];done),rfl⟩
 refine Y.seq (Y.region (Y.fa rfl (.s16 .g4) dH (Y.ld rfl eZ .z .z ?_)))
 refine Y.cl rfl rfl Tryz.func170 rfl rfl (aS (.t .z) .f) .n (fun _ _ hs tr=>sK (tr.ctx aa) Tryz.func171 rfl rfl (fun w2 S2 h2 x=>sF x)) ?_
 rintro _ _ ⟨rfl,rfl⟩
 refine Y.m .n ?_
 refine Y.as rfl .z (Y.nt ?_)
 refine Y.cond (.t .z) (fun bb=> ?_) (fun bb=> ?_)
 refine Y.seq (Y.region (Y.er (.s16 .g7) (Y.ql rfl (aA rfl .c) (Y.nt (Y.ret (Y.v (Y.j ?_)))))))
 refine Y.i (aU rfl .z) .n ?_
 have ab:(1≤x.links∧x.links≤60)∨¬(1≤x.links∧x.links≤60):=Classical.em _;exact⟨by first |(rw [cW (by omega)];done) |(rw [cX ⟨by assumption,by assumption⟩ (by omega)];done) |(rw [dC ⟨by assumption,by assumption⟩ (by omega) (by assumption)];done) |(rw [cY ⟨by assumption,by assumption⟩ (by omega) (by assumption) (by rw [List.take_of_length_le (by omega)] at hnd;exact hnd)];done),rfl⟩
 refine Y.skip (Y.ab ?_)
 exact Y.ao () ⟨⟨by assumption,by assumption⟩,by omega,by assumption⟩ (.c (.s16 .g7) (.c (.s16 .g8) .n)) (fun _ h=>h.sel (.c .z .n))
 refine Y.q (aC rfl rfl) rfl (by decide) rfl (aN rfl (.t .g12) (fun _=>gU _ _)) ?_
 refine Y.sk .z ?_
 refine Y.w ?_
 refine Y.sc [] (by kernel_rfl) ?_
 refine Y.w ?_
 refine Y.ar (i:=0) (j:=4) (by kernel_rfl) ?_ ?_
 refine Y.q (aC rfl rfl) rfl (by decide) rfl (aN rfl (.t .g13) (fun _=>dH _ _)) ?_
 refine Y.sk .z ?_
 refine Y.w ?_
 refine Y.sc [] (by kernel_rfl) ?_
 refine Y.w ?_
 refine Y.ar (i:=1) (j:=4) (by kernel_rfl) ?_ ?_
 refine Y.q (aC rfl rfl) rfl (by decide) rfl (aM rfl eZ (.t .z) (WS.g .z rfl)) ?_
 refine Y.sk .z ?_
 refine Y.w ?_
 refine Y.sc [] (by kernel_rfl) ?_
 refine Y.w ?_
 refine Y.ar (i:=2) (j:=4) (by kernel_rfl) ?_ ?_
 refine Y.call (aC rfl rfl) rfl (by decide) rfl (bE rfl Tryz.func168 rfl rfl (bG (.t .z))) .n (fun _ _ hs tr=>sC (tr.ctx aa)) ?_
 rintro _ _ ⟨rfl,rfl⟩
 refine Y.m .n ?_
 refine Y.sk .z ?_
 refine Y.w ?_
 refine Y.sc [(4,false),(5,false),(6,true),(7,false)] (by kernel_rfl) ?_
 refine Y.q (aC rfl rfl) rfl (by decide) rfl (aM rfl bP (.t .g3) (WS.g .z rfl)) ?_
 refine Y.sk .z ?_
 refine Y.call (aC rfl rfl) rfl (by decide) rfl (bE rfl Tryz.func169 rfl rfl (bG (.t .z))) .n (fun _ _ hs tr=>sI _ (by omega) (by omega)) ?_
 rintro _ _ ⟨rfl,rfl⟩
 refine Y.m .n ?_
 refine Y.sk .z ?_
 refine Y.dk rfl rfl .z (bW rfl (.t .g2) (.t .z)) ?_
 refine Y.q (aC rfl rfl) rfl (by decide) rfl (aA rfl (.t .z)) ?_
 refine Y.sl rfl ?_
 refine Y.w ?_
 refine Y.af (by kernel_rfl) ?_
 refine Y.g ?_
 refine Y.ac (.t .z) (fun bc=> ?_) (fun bc=> ?_)
 refine Y.seq (Y.region (Y.er (.s16 .g3) (Y.ql rfl (aA rfl .c) (Y.nt (Y.ret (Y.v (Y.j ?_)))))))
 refine Y.i (aU rfl .z) .n ?_
 have ab:(1≤x.links∧x.links≤60)∨¬(1≤x.links∧x.links≤60):=Classical.em _;exact⟨by first |(rw [cW (by omega)];done) |(rw [cX ⟨by assumption,by assumption⟩ (by omega)];done) |(rw [dC ⟨by assumption,by assumption⟩ (by omega) (by assumption)];done) |(rw [cY ⟨by assumption,by assumption⟩ (by omega) (by assumption) (by rw [List.take_of_length_le (by omega)] at hnd;exact hnd)];done),rfl⟩
 refine Y.seq (Y.region (Y.fa rfl (.s16 .g4) dH (Y.ld rfl eZ .z .z ?_)))
 refine Y.cl rfl rfl Tryz.func170 rfl rfl (aS (.t .z) .f) .n (fun _ _ hs tr=>sK (tr.ctx aa) Tryz.func171 rfl rfl (fun w2 S2 h2 x=>sF x)) ?_
 rintro _ _ ⟨rfl,rfl⟩
 refine Y.m .n ?_
 refine Y.as rfl .z (Y.nt ?_)
 refine Y.cond (.t .z) (fun bd=> ?_) (fun bd=> ?_)
 refine Y.seq (Y.region (Y.er (.s16 .g7) (Y.ql rfl (aA rfl .c) (Y.nt (Y.ret (Y.v (Y.j ?_)))))))
 refine Y.i (aU rfl .z) .n ?_
 have ab:(1≤x.links∧x.links≤60)∨¬(1≤x.links∧x.links≤60):=Classical.em _;exact⟨by first |(rw [cW (by omega)];done) |(rw [cX ⟨by assumption,by assumption⟩ (by omega)];done) |(rw [dC ⟨by assumption,by assumption⟩ (by omega) (by assumption)];done) |(rw [cY ⟨by assumption,by assumption⟩ (by omega) (by assumption) (by rw [List.take_of_length_le (by omega)] at hnd;exact hnd)];done),rfl⟩
 refine Y.skip (Y.ab ?_)
 exact Y.ao () ⟨⟨by assumption,by assumption⟩,by omega,by assumption⟩ (.c (.s16 .g7) (.c (.s16 .g8) .n)) (fun _ h=>h.sel (.c .z .n))
 refine Y.q (aC rfl rfl) rfl (by decide) rfl (aM rfl bP (.t .g2) (WS.g .z rfl)) ?_
 refine Y.sk .z ?_
 refine Y.w ?_
 refine Y.sc [(2,false),(5,false),(6,true),(7,false)] (by kernel_rfl) ?_
 refine Y.call (aC rfl rfl) rfl (by decide) rfl (bE rfl Tryz.func168 rfl rfl (bG (.t .g1))) .n (fun _ _ hs tr=>sC (tr.ctx aa)) ?_
 rintro _ _ ⟨rfl,rfl⟩
 refine Y.m .n ?_
 refine Y.sk .z ?_
 refine Y.call (aC rfl rfl) rfl (by decide) rfl (bE rfl Tryz.func169 rfl rfl (bG (.t .g1))) .n (fun _ _ hs tr=>sI _ (by omega) (by omega)) ?_
 rintro _ _ ⟨rfl,rfl⟩
 refine Y.m .n ?_
 refine Y.sk .z ?_
 refine Y.dk rfl rfl .z (bW rfl (.t .g1) (.t .z)) ?_
 refine Y.q (aC rfl rfl) rfl (by decide) rfl (aA rfl (.t .z)) ?_
 refine Y.sl rfl ?_
 refine Y.w ?_
 refine Y.af (by kernel_rfl) ?_
 refine Y.g ?_
 refine Y.ac (.t .z) (fun be=> ?_) (fun be=> ?_)
 refine Y.seq (Y.region (Y.er (.s16 .g3) (Y.ql rfl (aA rfl .c) (Y.nt (Y.ret (Y.v (Y.j ?_)))))))
 refine Y.i (aU rfl .z) .n ?_
 have ab:(1≤x.links∧x.links≤60)∨¬(1≤x.links∧x.links≤60):=Classical.em _;exact⟨by first |(rw [cW (by omega)];done) |(rw [cX ⟨by assumption,by assumption⟩ (by omega)];done) |(rw [dC ⟨by assumption,by assumption⟩ (by omega) (by assumption)];done) |(rw [cY ⟨by assumption,by assumption⟩ (by omega) (by assumption) (by rw [List.take_of_length_le (by omega)] at hnd;exact hnd)];done),rfl⟩
 refine Y.seq (Y.region (Y.fa rfl (.s16 .g4) dH (Y.ld rfl eZ .z .z ?_)))
 refine Y.cl rfl rfl Tryz.func170 rfl rfl (aS (.t .z) .f) .n (fun _ _ hs tr=>sK (tr.ctx aa) Tryz.func171 rfl rfl (fun w2 S2 h2 x=>sF x)) ?_
 rintro _ _ ⟨rfl,rfl⟩
 refine Y.m .n ?_
 refine Y.as rfl .z (Y.nt ?_)
 refine Y.cond (.t .z) (fun bf=> ?_) (fun bf=> ?_)
 refine Y.seq (Y.region (Y.er (.s16 .g7) (Y.ql rfl (aA rfl .c) (Y.nt (Y.ret (Y.v (Y.j ?_)))))))
 refine Y.i (aU rfl .z) .n ?_
 have ab:(1≤x.links∧x.links≤60)∨¬(1≤x.links∧x.links≤60):=Classical.em _;exact⟨by first |(rw [cW (by omega)];done) |(rw [cX ⟨by assumption,by assumption⟩ (by omega)];done) |(rw [dC ⟨by assumption,by assumption⟩ (by omega) (by assumption)];done) |(rw [cY ⟨by assumption,by assumption⟩ (by omega) (by assumption) (by rw [List.take_of_length_le (by omega)] at hnd;exact hnd)];done),rfl⟩
 refine Y.skip (Y.ab ?_)
 exact Y.ao () ⟨⟨by assumption,by assumption⟩,by omega,by assumption⟩ (.c (.s16 .g7) (.c (.s16 .g8) .n)) (fun _ h=>h.sel (.c .z .n))
 refine Y.q (aC rfl rfl) rfl (by decide) rfl (aM rfl bP (.t .g1) (WS.g .z rfl)) ?_
 refine Y.sk .z ?_
 refine Y.w ?_
 refine Y.sc [(1,false),(2,false),(5,false),(6,true),(7,false)] (by kernel_rfl) ?_
 refine Y.q (aC rfl rfl) rfl (by decide) rfl (aM rfl eZ (.t .g1) (WS.g .z rfl)) ?_
 refine Y.sk .z ?_
 refine Y.call (aC rfl rfl) rfl (by decide) rfl (bE rfl Tryz.func168 rfl rfl (bG (.t .z))) .n (fun _ _ hs tr=>sC (tr.ctx aa)) ?_
 rintro _ _ ⟨rfl,rfl⟩
 refine Y.m .n ?_
 refine Y.sk .z ?_
 refine Y.call (aC rfl rfl) rfl (by decide) rfl (bE rfl Tryz.func169 rfl rfl (bG (.t .g2))) .n (fun _ _ hs tr=>sI _ (by omega) (by omega)) ?_
 rintro _ _ ⟨rfl,rfl⟩
 refine Y.m .n ?_
 refine Y.sk .z ?_
 refine Y.dk rfl rfl .z (bW rfl (.t .g1) (.t .z)) ?_
 refine Y.q (aC rfl rfl) rfl (by decide) rfl (aA rfl (.t .z)) ?_
 refine Y.sl rfl ?_
 refine Y.w ?_
 refine Y.af (by kernel_rfl) ?_
 refine Y.g ?_
 refine Y.ac (.t .z) (fun bg=> ?_) (fun bg=> ?_)
 refine Y.seq (Y.region (Y.er (.s16 .g3) (Y.ql rfl (aA rfl .c) (Y.nt (Y.ret (Y.v (Y.j ?_)))))))
 refine Y.i (aU rfl .z) .n ?_
 have ab:(1≤x.links∧x.links≤60)∨¬(1≤x.links∧x.links≤60):=Classical.em _;exact⟨by first |(rw [cW (by omega)];done) |(rw [cX ⟨by assumption,by assumption⟩ (by omega)];done) |(rw [dC ⟨by assumption,by assumption⟩ (by omega) (by assumption)];done) |(rw [cY ⟨by assumption,by assumption⟩ (by omega) (by assumption) (by rw [List.take_of_length_le (by omega)] at hnd;exact hnd)];done),rfl⟩
 refine Y.seq (Y.region (Y.fa rfl (.s16 .g4) dH (Y.ld rfl eZ .z .z ?_)))
 refine Y.cl rfl rfl Tryz.func170 rfl rfl (aS (.t .z) .f) .n (fun _ _ hs tr=>sK (tr.ctx aa) Tryz.func171 rfl rfl (fun w2 S2 h2 x=>sF x)) ?_
 rintro _ _ ⟨rfl,rfl⟩
 refine Y.m .n ?_
 refine Y.as rfl .z (Y.nt ?_)
 refine Y.cond (.t .z) (fun bh=> ?_) (fun bh=> ?_)
 refine Y.seq (Y.region (Y.er (.s16 .g7) (Y.ql rfl (aA rfl .c) (Y.nt (Y.ret (Y.v (Y.j ?_)))))))
 refine Y.i (aU rfl .z) .n ?_
 have ab:(1≤x.links∧x.links≤60)∨¬(1≤x.links∧x.links≤60):=Classical.em _;exact⟨by first |(rw [cW (by omega)];done) |(rw [cX ⟨by assumption,by assumption⟩ (by omega)];done) |(rw [dC ⟨by assumption,by assumption⟩ (by omega) (by assumption)];done) |(rw [cY ⟨by assumption,by assumption⟩ (by omega) (by assumption) (by rw [List.take_of_length_le (by omega)] at hnd;exact hnd)];done),rfl⟩
 refine Y.skip (Y.ab ?_)
 exact Y.ao () ⟨⟨by assumption,by assumption⟩,by omega,by assumption⟩ (.c (.s16 .g7) (.c (.s16 .g8) .n)) (fun _ h=>h.sel (.c .z .n))
 refine Y.q (aC rfl rfl) rfl (by decide) rfl (aM rfl bP (.t .z) (WS.g .z rfl)) ?_
 refine Y.sk .z ?_
 refine Y.w ?_
 refine Y.sc [(0,false),(1,false),(2,false),(5,false),(6,true),(7,false)] (by kernel_rfl) ?_
 refine Y.q (aC rfl rfl) rfl (by decide) rfl (aN rfl (.t .g14) (fun _=>dH _ _)) ?_
 refine Y.sk .z ?_
 refine Y.q (aC rfl rfl) rfl (by decide) rfl (aM rfl eZ (.t .z) (WS.g .z rfl)) ?_
 refine Y.sk .z ?_
 refine Y.call (aC rfl rfl) rfl (by decide) rfl (bE rfl Tryz.func168 rfl rfl (bG (.t .z))) .n (fun _ _ hs tr=>sC (tr.ctx aa)) ?_
 rintro _ _ ⟨rfl,rfl⟩
 refine Y.m .n ?_
 refine Y.sk .z ?_
 refine Y.call (aC rfl rfl) rfl (by decide) rfl (bE rfl Tryz.func169 rfl rfl (bG (.t .g3))) .n (fun _ _ hs tr=>sI _ (by omega) (by omega)) ?_
 rintro _ _ ⟨rfl,rfl⟩
 refine Y.m .n ?_
 refine Y.sk .z ?_
 refine Y.dk rfl rfl .z (bW rfl (.t .g1) (.t .z)) ?_
 refine Y.q (aC rfl rfl) rfl (by decide) rfl (aA rfl (.t .z)) ?_
 refine Y.sl rfl ?_
 refine Y.w ?_
 refine Y.af (by kernel_rfl) ?_
 refine Y.g ?_
 refine Y.ac (.t .z) (fun bi=> ?_) (fun bi=> ?_)
 refine Y.seq (Y.region (Y.er (.s16 .g3) (Y.ql rfl (aA rfl .c) (Y.nt (Y.ret (Y.v (Y.j ?_)))))))
 refine Y.i (aU rfl .z) .n ?_
 have ab:(1≤x.links∧x.links≤60)∨¬(1≤x.links∧x.links≤60):=Classical.em _;exact⟨by first |(rw [cW (by omega)];done) |(rw [cX ⟨by assumption,by assumption⟩ (by omega)];done) |(rw [dC ⟨by assumption,by assumption⟩ (by omega) (by assumption)];done) |(rw [cY ⟨by assumption,by assumption⟩ (by omega) (by assumption) (by rw [List.take_of_length_le (by omega)] at hnd;exact hnd)];done),rfl⟩
 refine Y.seq (Y.region (Y.fa rfl (.s16 .g4) dH (Y.ld rfl eZ .z .z ?_)))
 refine Y.cl rfl rfl Tryz.func170 rfl rfl (aS (.t .z) .f) .n (fun _ _ hs tr=>sK (tr.ctx aa) Tryz.func171 rfl rfl (fun w2 S2 h2 x=>sF x)) ?_
 rintro _ _ ⟨rfl,rfl⟩
 refine Y.m .n ?_
 refine Y.as rfl .z (Y.nt ?_)
 refine Y.cond (.t .z) (fun bj=> ?_) (fun bj=> ?_)
 refine Y.seq (Y.region (Y.er (.s16 .g7) (Y.ql rfl (aA rfl .c) (Y.nt (Y.ret (Y.v (Y.j ?_)))))))
 refine Y.i (aU rfl .z) .n ?_
 have ab:(1≤x.links∧x.links≤60)∨¬(1≤x.links∧x.links≤60):=Classical.em _;exact⟨by first |(rw [cW (by omega)];done) |(rw [cX ⟨by assumption,by assumption⟩ (by omega)];done) |(rw [dC ⟨by assumption,by assumption⟩ (by omega) (by assumption)];done) |(rw [cY ⟨by assumption,by assumption⟩ (by omega) (by assumption) (by rw [List.take_of_length_le (by omega)] at hnd;exact hnd)];done),rfl⟩
 refine Y.skip (Y.ab ?_)
 exact Y.ao () ⟨⟨by assumption,by assumption⟩,by omega,by assumption⟩ (.c (.s16 .g7) (.c (.s16 .g8) .n)) (fun _ h=>h.sel (.c .z .n))
 rintro _u ⟨⟨bq,br⟩,bs,bt⟩
 refine Y.seq (Y.seq (Y.region (Y.fa rfl .g1 dH (Y.ld rfl eZ .z .z (Y.ql rfl (bD rfl eF (.t .z)) (Y.ql rfl (aR rfl .c) (Y.nt ?_)))))))
 refine Y.block ?_
 refine Y.ai (γ:=Nat) (fun k=> [(31,.int .i64 (k:Int)),(30,.int .i64 (x.blocks.length:Int)),(29,.slice ad x.blocks.length ac),(1,.pointer (some ⟨g3,0,none⟩))]) (fun k=> [bV g3 46 5 1 [.int .i64 x.kind,.int .i64 x.links,.int .i64 x.size,.slice ad x.blocks.length ac,.slice ae x.ents.length af]]) (fun k=>k≤x.blocks.length∧(x.blocks.take k).Nodup) (fun k=>x.blocks.length - k) 0 ⟨Nat.zero_le _,List.Pairwise.nil⟩ (.c .z (.c .g1 (.c .g2 (.c .g5 .n)))) (fun _ h=>h.sel (.c .z .n)) ?_
 rintro k ⟨hk,hnd⟩
 refine Y.seq (Y.region (Y.ql rfl (dA rfl (.t .z) (.t .g1)) (Y.nt (Y.seq ?_))))
 refine Y.u (.t .z) (fun bk=> ?_) (fun bk=> ?_)
 refine Y.skip (Y.g (Y.seq (Y.block (Y.seq (Y.region (Y.mv rfl .g1 ?_))))))
 obtain⟨al,ah,ai⟩:=ak (by omega)
 subst ah
 obtain⟨bu,aj⟩:=aK (xs:=x.blocks) (j:=k) (by omega)
 obtain⟨a1,am,an,ao⟩:=ai.elem aj
 obtain⟨rfl,bm⟩:=am
 refine Y.ql rfl (aB (j:=k) rfl eF jO (.t .g4) (.t .g2) rfl (by omega)) ?_
 refine Y.ql rfl (aM rfl bP (.t .z) (WS.i an ao rfl)) (Y.as rfl .g2 (Y.as rfl .g1 (Y.nt (Y.seq (Y.region (Y.fa rfl .g9 dH (Y.ld rfl eZ .z .z ?_)))))))
 refine Y.mv rfl .g3 ?_
 obtain⟨bn,ag⟩:∃A':Option Addr,A'=(if ac=0 then(some al)else Option.map (fun z=>Addr.add z (0 * 1)) (some al)):=⟨_,rfl⟩
 have aq:=nD (a:=0) (b:=k) ag aa (by omega) (by omega)
 have bo:=gH (xs:=x.blocks) (a:=0) (b:=k) (by omega)
 refine Y.ql rfl (jT (a:=0) (b:=k) rfl eF jO (.t .g1) ag (.inl ⟨rfl,rfl⟩) (.inr ⟨_,_,rfl,(.t .z)⟩) (by omega) (by omega) (by omega)) ?_
 refine Y.mv rfl .g4 ?_
 refine Y.cl rfl rfl Tryz.func27 rfl rfl (aS (.t .g1) (.t .z)) .n (fun _ _ hs tr=>aDw (tr.ctx aq) _) ?_
 rintro _ _ ⟨rfl,rfl⟩
 refine Y.m .n ?_
 refine Y.nt ?_
 refine Y.u (.t .z) (fun bp=> ?_) (fun bp=> ?_)
 refine Y.seq (Y.region (Y.ql rfl (aA rfl .c) (Y.nt (Y.ret (Y.v (Y.j (Y.j ?_)))))))
 refine Y.v (Y.j ?_)
 refine Y.i (aU rfl .z) .n ?_
 have ab:(1≤x.links∧x.links≤60)∨¬(1≤x.links∧x.links≤60):=Classical.em _;exact⟨by first |(rw [cW (by omega)];done) |(rw [cX ⟨by assumption,by assumption⟩ (by omega)];done) |(rw [dC ⟨by assumption,by assumption⟩ (by omega) (by assumption)];done) |(rw [vR ⟨by assumption,by assumption⟩ (by omega) (by assumption) (zI aj (by assumption))];done) |(rw [cY ⟨by assumption,by assumption⟩ (by omega) (by assumption) (by rw [List.take_of_length_le (by omega)] at hnd;exact hnd)];done),rfl⟩
 refine Y.skip (Y.ab (Y.g (Y.region ?_)))
 refine Y.ql rfl (bN (c:=((k+1:Nat):Int)) rfl (.t .g12) .c (wr (by omega) (by omega) (by omega))) ?_
 refine Y.er .g13 (Y.mv rfl .z (Y.nil ?_))
 refine Y.ae (k+1) ⟨by omega,aEy hnd aj (by assumption)⟩ (by first | omega |(dsimp only;omega)) (.c .z (.c .g14 (.c .g15 (.c .g16 .n)))) (fun _ h=>h.sel (.c .z .n))
 refine Y.exit (Y.y (Y.y (Y.ag (Y.g (Y.seq (Y.region (Y.ql rfl (aA rfl .c) (Y.nil ?_))))))))
 refine Y.g (Y.ret ?_)
 refine Y.i (aU rfl .z) .n ?_
 have ab:(1≤x.links∧x.links≤60)∨¬(1≤x.links∧x.links≤60):=Classical.em _;exact⟨by first |(rw [cW (by omega)];done) |(rw [cX ⟨by assumption,by assumption⟩ (by omega)];done) |(rw [dC ⟨by assumption,by assumption⟩ (by omega) (by assumption)];done) |(rw [cY ⟨by assumption,by assumption⟩ (by omega) (by assumption) (by rw [List.take_of_length_le (by omega)] at hnd;exact hnd)];done),rfl⟩

theorem aCj {w0:World}{S0:Bs}{x:aF}{aw:List Value} (h0:cR.ro w0 (FF w0 S0) x aw):
    Calls Tryz.prog 142 #[.agg aw.toArray] w0 (aI w0 S0 (fun r l=>r= .int .i64 (iR x)∧l= [])):=by
 obtain⟨a6,a7,rfl,an,ao⟩:=bY h0
 obtain⟨ag,ah,rfl,ax,ay,az,a0⟩:=aD an
 obtain⟨ac,ad,rfl,a1,a2,a3,ai⟩:=aD ao
 refine Y.enter (N:=43) Tryz.func142 rfl rfl (by simp) [(0,.agg #[.int .i64 x.kind,.int .i64 x.links,.int .i64 x.size,.slice ag x.blocks.length ah,.slice ac x.ents.length ad])] (by simp) (l0:= []) trivial ?_
 refine Y.seq (Y.region ?_)
 refine Y.el rfl (fQ (cs:= [.int .i64 x.kind,.int .i64 x.links,.int .i64 x.size,.slice ag x.blocks.length ah,.slice ac x.ents.length ad]) (n:=5) rfl (.t .z) rfl rfl) ?_
 rintro _ _ ⟨g3,rfl,rfl⟩
 refine Y.ql rfl (aA rfl .c) (Y.nt (Y.seq (Y.seq (Y.region (Y.fa rfl .g1 bL (Y.ld rfl dX .z .z (Y.ql rfl (bD rfl dP (.t .z)) ?_)))))))
 refine Y.ql rfl (fI rfl (.t .z) .c) (Y.nt ?_)
 refine Y.u (.t .z) (fun b4=> ?_) (fun b4=> ?_)
 refine Y.seq (Y.region (Y.er .g4 (Y.ql rfl (aA rfl .c) (Y.nt (Y.ret (Y.j ?_))))))
 refine Y.i (aU rfl .z) .n ?_
 exact⟨by first |(rw [iW (by assumption)];done) |(rw [iD (by assumption) (fun j hj=>hallk j (by omega))];done),rfl⟩
 refine Y.skip (Y.g (Y.seq (Y.seq (Y.region (Y.fa rfl .g5 bL (Y.ld rfl dX .z .z (Y.ql rfl (bD rfl dP (.t .z)) (Y.ql rfl (aR rfl .c) ?_))))))))
 refine Y.nt (Y.block ?_)
 refine Y.ai (γ:=Nat) (fun k=> [(13,.int .i64 (k:Int)),(12,.int .i64 (x.ents.length:Int)),(11,.slice ac x.ents.length ad),(1,.pointer (some ⟨g3,0,none⟩))]) (fun k=> [bV g3 46 5 1 [.int .i64 x.kind,.int .i64 x.links,.int .i64 x.size,.slice ag x.blocks.length ah,.slice ac x.ents.length ad]]) (fun k=>k≤x.ents.length∧∀j,j<k→pF x.ents j=0) (fun k=>x.ents.length - k) 0 ⟨Nat.zero_le _,fun j hj=>absurd hj (Nat.not_lt_zero j)⟩ (.c .z (.c .g1 (.c .g2 (.c .g9 .n)))) (fun _ h=>h.sel (.c .z .n)) ?_
 rintro k ⟨hk,hallk⟩
 refine Y.seq (Y.region (Y.ql rfl (dA rfl (.t .z) (.t .g1)) (Y.nt (Y.seq ?_))))
 refine Y.u (.t .z) (fun b5=> ?_) (fun b5=> ?_)
 refine Y.skip (Y.g (Y.seq (Y.block (Y.seq (Y.region (Y.mv rfl .g1 ?_))))))
 obtain⟨bb,aj,af⟩:=ai (by omega)
 subst aj
 obtain⟨x7,aa⟩:=aK (xs:=x.ents) (j:=k) (by omega)
 obtain⟨a8,ap,aq,ar⟩:=af.elem aa
 obtain⟨rfl,a4⟩:=eY ap
 refine Y.ql rfl (aB (j:=k) rfl dP fA (.t .g4) (.t .g2) rfl (by omega)) ?_
 refine Y.ql rfl (qE rfl tG (.t .z) aq ar fA) ?_
 refine Y.el rfl (bB rfl aD8 rfl rfl) ?_
 rintro _ _ ⟨g9,rfl,rfl⟩
 refine Y.as rfl .g3 ?_
 refine Y.es (aE rfl) rfl (esW rfl (.t .g1) (.t .g2) .z fA rfl rfl) ?_
 refine Y.nt (Y.seq (Y.seq (Y.region (Y.fa rfl .g1 kM (Y.ld rfl iH .z .z ?_)))))
 refine Y.cl rfl rfl Tryz.func43 rfl rfl (bG (.t .z)) .n (fun _ _ hs tr=>aLp _ (by first | assumption | omega)) ?_
 rintro _ _ ⟨rfl,rfl⟩
 refine Y.m .n ?_
 refine Y.as rfl .z (Y.nt (Y.seq (Y.region (Y.mv rfl .z (Y.ql rfl (bW rfl (.t .z) .c) (Y.nt ?_))))))
 refine Y.ac (.t .z) (fun a9=> ?_) (fun a9=> ?_)
 refine Y.seq (Y.region (Y.mv rfl .g2 (Y.as rfl .z (Y.nt (Y.ret (Y.j (Y.v ?_)))))))
 refine Y.j (Y.j (Y.v (Y.j ?_)))
 refine Y.i (aU rfl .z) .n ?_
 exact⟨by first |(rw [iW (by assumption)];done) |(rw [iD (by assumption) (fun j hj=>hallk j (by omega))];done) |(rw [fT (by assumption) aa (by rw [kX (by assumption)];first | assumption | decide) hallk,kX (by assumption)];done) |(rw [fT (by assumption) aa (by rw [kZ (by assumption) (by assumption)];first | assumption | decide) hallk,kZ (by assumption) (by assumption)];done),rfl⟩
 refine Y.skip (Y.g (Y.seq (Y.seq (Y.region (Y.fa rfl .g7 gG (Y.ld rfl bP .z .z ?_))))))
 refine Y.cl rfl rfl Tryz.func48 rfl rfl (eL (.t .z) .c .c) .n (fun _ _ hs tr=>aBe _ _ _) ?_
 rintro _ _ ⟨rfl,rfl⟩
 refine Y.m .n ?_
 refine Y.ql rfl (fF rfl (.t .z)) (Y.nt ?_)
 refine Y.ac (.t .z) (fun ba=> ?_) (fun ba=> ?_)
 refine Y.seq (Y.region (Y.ql rfl (aA rfl .c) (Y.nt (Y.ret (Y.j (Y.v (Y.j ?_)))))))
 refine Y.j (Y.v (Y.j ?_))
 refine Y.i (aU rfl .z) .n ?_
 exact⟨by first |(rw [iW (by assumption)];done) |(rw [iD (by assumption) (fun j hj=>hallk j (by omega))];done) |(rw [fT (by assumption) aa (by rw [kX (by assumption)];first | assumption | decide) hallk,kX (by assumption)];done) |(rw [fT (by assumption) aa (by rw [kZ (by assumption) (by assumption)];first | assumption | decide) hallk,kZ (by assumption) (by assumption)];done),rfl⟩
 refine Y.skip (Y.g (Y.seq ?_))
 refine Y.dr .z 14 fR ?_
 refine Y.sc (qs 0 3) (by kernel_rfl) ?_
 refine Y.dm rfl rfl .z .g10 (Y.dk rfl rfl .z (fI rfl (.t .z) .c) (Y.dm rfl rfl .z .z (Y.w ?_)))
 refine Y.al .z (fun g12=> ?_) (fun g12=> ?_)
 refine Y.sc (qs 3 11) (by kernel_rfl) ?_
 refine Y.aj rfl rfl rfl .z rfl (by decide) rfl .z (aN rfl (.t (.s16 .g6)) (fun _=>bL _ _)) ?_
 refine Y.aj rfl rfl rfl .g1 rfl (by decide) rfl .z (aM rfl dX (.t .z) (WS.g .g1 rfl)) ?_
 refine Y.aj rfl rfl rfl .g2 rfl (by decide) rfl .z (aR rfl (.t .g15)) ?_
 refine Y.aj rfl rfl rfl .g3 rfl (by decide) rfl .z (iT (c:=(k:Int) - 1) rfl (.t .z) .c (wr (by omega) (by omega) (by omega))) ?_
 obtain⟨au,ae⟩:=aK (xs:=x.ents) (j:=Int.toNat ((k:Int) - 1)) (by omega)
 obtain⟨a5,ak,al,am⟩:=af.elem ae
 obtain⟨rfl,av⟩:=eY ak
 refine Y.aj rfl rfl rfl .g4 rfl (by decide) rfl .z (aB (j:=Int.toNat ((k:Int) - 1)) rfl dP fA (.t .g2) (.t .z) (by omega) (by omega)) ?_
 refine Y.aj rfl rfl rfl .g5 rfl (by decide) rfl .z (aN rfl (.t .z) (fun _=>kM _ _)) ?_
 refine Y.aj rfl rfl rfl .g6 rfl (by decide) rfl .z (aM rfl iH (.t .z) (WS.el al am rfl)) ?_
 refine Y.aj rfl rfl rfl .g7 rfl (by decide) rfl .z (aN rfl (.t (.s16 .g5)) (fun _=>kM _ _)) ?_
 refine Y.aj rfl rfl rfl .g8 rfl (by decide) rfl .z (aM rfl iH (.t .z) (WS.g .z rfl)) ?_
 refine Y.aj rfl rfl rfl .g9 rfl (by decide) rfl .z (aKo rfl (.t .g2) (.t .z)) ?_
 refine Y.dk rfl rfl .z (bI rfl (.t .g10) (.t .z)) (Y.w ?_)
 refine Y.af (by kernel_rfl) ?_
 refine Y.g ?_
 refine Y.cond (.t .z) (fun ab=> ?_) (fun ab=> ?_)
 refine Y.seq (Y.region (Y.ql rfl (aA rfl .c) (Y.nt (Y.ret (Y.v (Y.j (Y.j ?_)))))))
 refine Y.v (Y.j ?_)
 refine Y.i (aU rfl .z) .n ?_
 exact⟨by first |(rw [iW (by assumption)];done) |(rw [iD (by assumption) (fun j hj=>hallk j (by omega))];done) |(rw [fT (by assumption) aa (by rw [kX (by assumption)];first | assumption | decide) hallk,kX (by assumption)];done) |(rw [fT (by assumption) aa (by rw [kZ (by assumption) (by assumption)];first | assumption | decide) hallk,kZ (by assumption) (by assumption)];done) |(rw [fT (by assumption) aa (by rw [wP (p:=au) (by assumption) (by assumption) (by omega) (by rw [show k - 1=Int.toNat ((k:Int) - 1) by omega];exact ae) (by first |(simpa using ab) |(rw [rZ] at ab;simpa using ab))];first | assumption | decide) hallk,wP (p:=au) (by assumption) (by assumption) (by omega) (by rw [show k - 1=Int.toNat ((k:Int) - 1) by omega];exact ae) (by first |(simpa using ab) |(rw [rZ] at ab;simpa using ab))];done),rfl⟩
 refine Y.skip (Y.ab (Y.g (Y.region ?_)))
 refine Y.ql rfl (bN (c:=((k+1:Nat):Int)) rfl (.t (.s16 .g14)) .c (wr (by omega) (by omega) (by omega))) ?_
 refine Y.er (.s16 .g15) (Y.mv rfl .z (Y.nil ?_))
 refine Y.ae (k+1) ⟨by omega,wN hallk aa (by first | exact rQ (by assumption) (by assumption) (by omega) | exact aEh (p:=au) (by assumption) (by assumption) (by omega) (by rw [show k - 1=Int.toNat ((k:Int) - 1) by omega];exact ae) (by first |(simpa using ab) |(rw [rZ] at ab;simpa using ab)))⟩ (by first | omega |(dsimp only;omega)) (.c .z (.c (.s16 .g16) (.c (.s16 (.s16 .g1)) (.c (.s16 (.s16 .g2)) .n)))) (fun _ h=>h.sel (.c .g1 .n))
 refine Y.sc (qs 3 11) (by kernel_rfl) ?_
 refine Y.am rfl rfl rfl .z rfl rfl (by decide) rfl .z ?_
 refine Y.am rfl rfl rfl .g1 rfl rfl (by decide) rfl .z ?_
 refine Y.am rfl rfl rfl .g2 rfl rfl (by decide) rfl .z ?_
 refine Y.am rfl rfl rfl .g3 rfl rfl (by decide) rfl .z ?_
 refine Y.am rfl rfl rfl .g4 rfl rfl (by decide) rfl .z ?_
 refine Y.am rfl rfl rfl .g5 rfl rfl (by decide) rfl .z ?_
 refine Y.am rfl rfl rfl .g6 rfl rfl (by decide) rfl .z ?_
 refine Y.am rfl rfl rfl .g7 rfl rfl (by decide) rfl .z ?_
 refine Y.am rfl rfl rfl .g8 rfl rfl (by decide) rfl .z ?_
 refine Y.am rfl rfl rfl .g9 rfl rfl (by decide) rfl .z ?_
 refine Y.dk rfl rfl .z (bH rfl (.t .g10) .c) (Y.w ?_)
 refine Y.af (by kernel_rfl) ?_
 refine Y.g ?_
 refine Y.ap (.t .z) ?_
 refine Y.skip (Y.ab (Y.g (Y.region ?_)))
 refine Y.ql rfl (bN (c:=((k+1:Nat):Int)) rfl (.t (.s16 .g14)) .c (wr (by omega) (by omega) (by omega))) ?_
 refine Y.er (.s16 .g15) (Y.mv rfl .z (Y.nil ?_))
 refine Y.ae (k+1) ⟨by omega,wN hallk aa (by first | exact rQ (by assumption) (by assumption) (by omega) | exact rQ (by assumption) (by assumption) (by omega))⟩ (by first | omega |(dsimp only;omega)) (.c .z (.c (.s16 .g16) (.c (.s16 (.s16 .g1)) (.c (.s16 (.s16 .g2)) .n)))) (fun _ h=>h.sel (.c .g1 .n))
 refine Y.exit (Y.y (Y.y (Y.ag (Y.g (Y.seq (Y.region (Y.ql rfl (aA rfl .c) (Y.nil ?_))))))))
 refine Y.g (Y.ret ?_)
 refine Y.i (aU rfl .z) .n ?_
 exact⟨by first |(rw [iW (by assumption)];done) |(rw [iD (by assumption) (fun j hj=>hallk j (by omega))];done),rfl⟩

theorem aNl {w0:World}{S0:Bs}{x:aF}{an:Addr} (h0:eV cR w0 (FF w0 S0) an x):
    Calls Tryz.prog 88 #[.pointer (some an)] w0 (aI w0 S0 (fun r l=>r= .int .i64 (iR x)∧l= [])):=by
 obtain⟨bc,ag,a4,ah⟩:=id h0
 obtain⟨a5,a6,rfl,ao,ap⟩:=bY a4
 obtain⟨a7,a8,rfl,av,aw,ax,ay⟩:=aD ao
 obtain⟨a9,ba,rfl,az,a0,a1,ai⟩:=aD ap
 refine Y.enter (N:=64) Tryz.func88 rfl rfl (by simp) [(0,.pointer (some an))] (by simp) (l0:= []) trivial ?_
 refine Y.seq (Y.region (Y.ql rfl (aA rfl .c) (Y.nt (Y.seq (Y.seq (Y.region (Y.mv rfl .g1 ?_)))))))
 refine Y.nc rfl .z (Y.fa rfl .z bL (Y.le rfl dX .z ag ah (Y.ql rfl (bD rfl dP (.t .z)) (Y.ql rfl (fI rfl (.t .z) .c) (Y.nt ?_)))))
 refine Y.u (.t .z) (fun b3=> ?_) (fun b3=> ?_)
 refine Y.seq (Y.region (Y.er .g6 (Y.ql rfl (aA rfl .c) (Y.nt (Y.ret (Y.j ?_))))))
 refine Y.i (aU rfl .z) .n ?_
 exact⟨by first |(rw [iW (by assumption)];done) |(rw [iD (by assumption) (fun j hj=>hallk j (by omega))];done),rfl⟩
 refine Y.skip (Y.g (Y.seq (Y.seq (Y.region (Y.ql rfl (aA rfl .c) (Y.nt (Y.block ?_)))))))
 refine Y.ai (γ:=Nat) (fun k=> [(3,.int .i64 (k:Int)),(0,.pointer (some an))]) (fun k=> []) (fun k=>k≤x.ents.length∧∀j,j<k→pF x.ents j=0) (fun k=>x.ents.length - k) 0 ⟨Nat.zero_le _,fun j hj=>absurd hj (Nat.not_lt_zero j)⟩ (.c .z (.c .g8 .n)) (fun _ h=>h) ?_
 rintro k ⟨hk,hallk⟩
 refine Y.seq (Y.seq (Y.region (Y.mv rfl .z (Y.mv rfl .g2 (Y.nc rfl .z (Y.fa rfl .z bL (Y.le rfl dX .z ag ah (Y.ql rfl (bD rfl dP (.t .z)) ?_))))))))
 refine Y.ql rfl (dA rfl (.t .g5) (.t .z)) (Y.nt ?_)
 refine Y.u (.t .z) (fun b4=> ?_) (fun b4=> ?_)
 refine Y.skip (Y.g (Y.seq (Y.block (Y.seq (Y.seq (Y.region (Y.mv rfl .g8 (Y.nc rfl .z ?_))))))))
 refine Y.fa rfl .z bL (Y.le rfl dX .z ag ah (Y.mv rfl .g11 ?_))
 obtain⟨bd,aj,ad⟩:=ai (by omega)
 subst aj
 obtain⟨x6,aa⟩:=aK (xs:=x.ents) (j:=k) (by omega)
 obtain⟨bb,aq,ae,af⟩:=ad.elem aa
 obtain⟨rfl,a2⟩:=eY aq
 refine Y.ql rfl (aB (j:=k) rfl dP fA (.t .g1) (.t .z) rfl (by omega)) ?_
 refine Y.fa rfl .z kM (Y.le rfl iH .z ae af ?_)
 refine Y.cl rfl rfl Tryz.func119 rfl rfl (bG (.t .z)) .n (fun _ _ hs tr=>aKb _ (by first | assumption | omega)) ?_
 rintro _ _ ⟨rfl,rfl⟩
 refine Y.m .n ?_
 refine Y.as rfl .z (Y.nt (Y.seq (Y.region (Y.mv rfl .z (Y.ql rfl (bW rfl (.t .z) .c) (Y.nt ?_))))))
 refine Y.ac (.t .z) (fun b8=> ?_) (fun b8=> ?_)
 refine Y.seq (Y.region (Y.mv rfl .g2 (Y.as rfl .z (Y.nt (Y.ret (Y.j (Y.v ?_)))))))
 refine Y.j (Y.j (Y.v (Y.j ?_)))
 refine Y.i (aU rfl .z) .n ?_
 exact⟨by first |(rw [iW (by assumption)];done) |(rw [iD (by assumption) (fun j hj=>hallk j (by omega))];done) |(rw [fT (by assumption) aa (by rw [kX (by assumption)];first | assumption | decide) hallk,kX (by assumption)];done) |(rw [fT (by assumption) aa (by rw [kZ (by assumption) (by assumption)];first | assumption | decide) hallk,kZ (by assumption) (by assumption)];done),rfl⟩
 refine Y.skip (Y.g (Y.seq (Y.seq (Y.region (Y.mv rfl (.s16 .g4) (Y.nc rfl .z (Y.fa rfl .z bL (Y.le rfl dX .z ag ah ?_))))))))
 refine Y.mv rfl (.s16 .g7) ?_
 refine Y.ql rfl (aB (j:=k) rfl dP fA (.t .g1) (.t .z) rfl (by omega)) ?_
 refine Y.fa rfl .z gG (Y.le rfl bP .z ae af ?_)
 refine Y.cl rfl rfl Tryz.func86 rfl rfl (eL (.t .z) .c .c) .n (fun _ _ hs tr=>yK _ _ _) ?_
 rintro _ _ ⟨rfl,rfl⟩
 refine Y.m .n ?_
 refine Y.ql rfl (fF rfl (.t .z)) (Y.nt ?_)
 refine Y.ac (.t .z) (fun b9=> ?_) (fun b9=> ?_)
 refine Y.seq (Y.region (Y.ql rfl (aA rfl .c) (Y.nt (Y.ret (Y.j (Y.v (Y.j ?_)))))))
 refine Y.j (Y.v (Y.j ?_))
 refine Y.i (aU rfl .z) .n ?_
 exact⟨by first |(rw [iW (by assumption)];done) |(rw [iD (by assumption) (fun j hj=>hallk j (by omega))];done) |(rw [fT (by assumption) aa (by rw [kX (by assumption)];first | assumption | decide) hallk,kX (by assumption)];done) |(rw [fT (by assumption) aa (by rw [kZ (by assumption) (by assumption)];first | assumption | decide) hallk,kZ (by assumption) (by assumption)];done),rfl⟩
 refine Y.skip (Y.g (Y.seq ?_))
 refine Y.dr .z 22 fR ?_
 refine Y.sc (qs 0 3) (by kernel_rfl) ?_
 refine Y.dm rfl rfl .z (.s16 .g13) (Y.dk rfl rfl .z (fI rfl (.t .z) .c) (Y.dm rfl rfl .z .z (Y.w ?_)))
 refine Y.al .z (fun g10=> ?_) (fun g10=> ?_)
 refine Y.sc (qs 3 19) (by kernel_rfl) ?_
 refine Y.aj rfl rfl rfl .z rfl (by decide) rfl .z (aR rfl (.t (.s16 (.s16 .g1)))) ?_
 refine Y.aj rfl rfl rfl .g1 rfl (by decide) rfl .z (dZ rfl (.t .z)) ?_
 refine Y.aj rfl rfl rfl .g2 rfl (by decide) rfl .z (aN rfl (.t .z) (fun _=>bL _ _)) ?_
 refine Y.aj rfl rfl rfl .g3 rfl (by decide) rfl .z (aM rfl dX (.t .z) (WS.el ag ah rfl)) ?_
 refine Y.aj rfl rfl rfl .g4 rfl (by decide) rfl .z (aR rfl (.t (.s16 (.s16 .g4)))) ?_
 refine Y.aj rfl rfl rfl .g5 rfl (by decide) rfl .z (aB (j:=k) rfl dP fA (.t .g1) (.t .z) rfl (by omega)) ?_
 refine Y.aj rfl rfl rfl .g6 rfl (by decide) rfl .z (aN rfl (.t .z) (fun _=>kM _ _)) ?_
 refine Y.aj rfl rfl rfl .g7 rfl (by decide) rfl .z (aM rfl iH (.t .z) (WS.el ae af rfl)) ?_
 refine Y.aj rfl rfl rfl .g8 rfl (by decide) rfl .z (aR rfl (.t (.s16 (.s16 .g9)))) ?_
 refine Y.aj rfl rfl rfl .g9 rfl (by decide) rfl .z (dZ rfl (.t .z)) ?_
 refine Y.aj rfl rfl rfl .g10 rfl (by decide) rfl .z (aN rfl (.t .z) (fun _=>bL _ _)) ?_
 refine Y.aj rfl rfl rfl .g11 rfl (by decide) rfl .z (aM rfl dX (.t .z) (WS.el ag ah rfl)) ?_
 refine Y.aj rfl rfl rfl .g12 rfl (by decide) rfl .z (aR rfl (.t (.s16 (.s16 .g12)))) ?_
 refine Y.aj rfl rfl rfl .g13 rfl (by decide) rfl .z (iT (c:=(k:Int) - 1) rfl (.t .z) .c (wr (by omega) (by omega) (by omega))) ?_
 obtain⟨ar,ac⟩:=aK (xs:=x.ents) (j:=Int.toNat ((k:Int) - 1)) (by omega)
 obtain⟨a3,ak,al,am⟩:=ad.elem ac
 obtain⟨rfl,au⟩:=eY ak
 refine Y.aj rfl rfl rfl .g14 rfl (by decide) rfl .z (aB (j:=Int.toNat ((k:Int) - 1)) rfl dP fA (.t .g2) (.t .z) (by omega) (by omega)) ?_
 refine Y.aj rfl rfl rfl .g15 rfl (by decide) rfl .z (aN rfl (.t .z) (fun _=>kM _ _)) ?_
 refine Y.aj rfl rfl rfl .g16 rfl (by decide) rfl .z (aM rfl iH (.t .z) (WS.el al am rfl)) ?_
 refine Y.aj rfl rfl rfl (.s16 .g1) rfl (by decide) rfl .z (aK8 rfl (.t .g9) (.t .z)) ?_
 refine Y.dk rfl rfl .z (bI rfl (.t (.s16 .g2)) (.t .z)) (Y.w ?_)
 refine Y.af (by kernel_rfl) ?_
 refine Y.g ?_
 refine Y.cond (.t .z) (fun ab=> ?_) (fun ab=> ?_)
 refine Y.seq (Y.region (Y.ql rfl (aA rfl .c) (Y.nt (Y.ret (Y.v (Y.j (Y.j ?_)))))))
 refine Y.v (Y.j ?_)
 refine Y.i (aU rfl .z) .n ?_
 exact⟨by first |(rw [iW (by assumption)];done) |(rw [iD (by assumption) (fun j hj=>hallk j (by omega))];done) |(rw [fT (by assumption) aa (by rw [kX (by assumption)];first | assumption | decide) hallk,kX (by assumption)];done) |(rw [fT (by assumption) aa (by rw [kZ (by assumption) (by assumption)];first | assumption | decide) hallk,kZ (by assumption) (by assumption)];done) |(rw [fT (by assumption) aa (by rw [wP (p:=ar) (by assumption) (by assumption) (by omega) (by rw [show k - 1=Int.toNat ((k:Int) - 1) by omega];exact ac) (by first |(simpa using ab) |(rw [rZ] at ab;simpa using ab))];first | assumption | decide) hallk,wP (p:=ar) (by assumption) (by assumption) (by omega) (by rw [show k - 1=Int.toNat ((k:Int) - 1) by omega];exact ac) (by first |(simpa using ab) |(rw [rZ] at ab;simpa using ab))];done),rfl⟩
 refine Y.skip (Y.ab (Y.g (Y.region (Y.mv rfl (.s16 (.s16 (.s16 .g3))) ?_))))
 refine Y.ql rfl (bN (c:=((k+1:Nat):Int)) rfl (.t .z) .c (wr (by omega) (by omega) (by omega))) ?_
 refine Y.er (.s16 (.s16 (.s16 .g5))) (Y.as rfl .z (Y.nil ?_))
 refine Y.ae (k+1) ⟨by omega,wN hallk aa (by first | exact rQ (by assumption) (by assumption) (by omega) | exact aEh (p:=ar) (by assumption) (by assumption) (by omega) (by rw [show k - 1=Int.toNat ((k:Int) - 1) by omega];exact ac) (by first |(simpa using ab) |(rw [rZ] at ab;simpa using ab)))⟩ (by first | omega |(dsimp only;omega)) (.c .z (.c (.s16 (.s16 (.s16 .g6))) .n)) (fun _ h=>h)
 refine Y.sc (qs 3 19) (by kernel_rfl) ?_
 refine Y.am rfl rfl rfl .z rfl rfl (by decide) rfl .z ?_
 refine Y.am rfl rfl rfl .g1 rfl rfl (by decide) rfl .z ?_
 refine Y.am rfl rfl rfl .g2 rfl rfl (by decide) rfl .z ?_
 refine Y.am rfl rfl rfl .g3 rfl rfl (by decide) rfl .z ?_
 refine Y.am rfl rfl rfl .g4 rfl rfl (by decide) rfl .z ?_
 refine Y.am rfl rfl rfl .g5 rfl rfl (by decide) rfl .z ?_
 refine Y.am rfl rfl rfl .g6 rfl rfl (by decide) rfl .z ?_
 refine Y.am rfl rfl rfl .g7 rfl rfl (by decide) rfl .z ?_
 refine Y.am rfl rfl rfl .g8 rfl rfl (by decide) rfl .z ?_
 refine Y.am rfl rfl rfl .g9 rfl rfl (by decide) rfl .z ?_
 refine Y.am rfl rfl rfl .g10 rfl rfl (by decide) rfl .z ?_
 refine Y.am rfl rfl rfl .g11 rfl rfl (by decide) rfl .z ?_
 refine Y.am rfl rfl rfl .g12 rfl rfl (by decide) rfl .z ?_
 refine Y.am rfl rfl rfl .g13 rfl rfl (by decide) rfl .z ?_
 refine Y.am rfl rfl rfl .g14 rfl rfl (by decide) rfl .z ?_
 refine Y.am rfl rfl rfl .g15 rfl rfl (by decide) rfl .z ?_
 refine Y.am rfl rfl rfl .g16 rfl rfl (by decide) rfl .z ?_
 refine Y.am rfl rfl rfl (.s16 .g1) rfl rfl (by decide) rfl .z ?_
 refine Y.dk rfl rfl .z (bH rfl (.t (.s16 .g2)) .c) (Y.w ?_)
 refine Y.af (by kernel_rfl) ?_
 refine Y.g ?_
 refine Y.ap (.t .z) ?_
 refine Y.skip (Y.ab (Y.g (Y.region (Y.mv rfl (.s16 (.s16 (.s16 .g3))) ?_))))
 refine Y.ql rfl (bN (c:=((k+1:Nat):Int)) rfl (.t .z) .c (wr (by omega) (by omega) (by omega))) ?_
 refine Y.er (.s16 (.s16 (.s16 .g5))) (Y.as rfl .z (Y.nil ?_))
 refine Y.ae (k+1) ⟨by omega,wN hallk aa (by first | exact rQ (by assumption) (by assumption) (by omega) | exact rQ (by assumption) (by assumption) (by omega))⟩ (by first | omega |(dsimp only;omega)) (.c .z (.c (.s16 (.s16 (.s16 .g6))) .n)) (fun _ h=>h)
 refine Y.exit (Y.y (Y.y (Y.ag (Y.g (Y.seq (Y.region (Y.ql rfl (aA rfl .c) (Y.nil ?_))))))))
 refine Y.g (Y.ret ?_)
 refine Y.i (aU rfl .z) .n ?_
 exact⟨by first |(rw [iW (by assumption)];done) |(rw [iD (by assumption) (fun j hj=>hallk j (by omega))];done),rfl⟩

end Go.Proofs.YtmejbfmhaoilmaaGreatDoor

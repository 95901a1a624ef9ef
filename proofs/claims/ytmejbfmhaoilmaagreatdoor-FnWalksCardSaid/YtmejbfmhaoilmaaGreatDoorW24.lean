/- What is proved: contracts of functions, one a function. No condition. -/
import Derived.Test.YtmejbfmhaoilmaaGreatDoorBase1
import Derived.Test.YtmejbfmhaoilmaaGreatDoorW23
import Derived.Test.YtmejbfmhaoilmaaGreatDoorTypesA
namespace Go.Proofs.YtmejbfmhaoilmaaGreatDoor
open Go Go.RowKit
set_option linter.unusedVariables false
set_option linter.unusedSimpArgs false
set_option maxHeartbeats 1000000
set_option maxRecDepth 20000
theorem aN9 {w0:World}{S0:Bs}{b:(List UInt8)}{v0:Value} (h0:dD.ro w0 (FF w0 S0) b [v0]):
    Calls Tryz.prog 66 #[v0] w0 (aI w0 S0 (fun r l=>r= .int .i64 b.length∧l= [])):=by
 obtain⟨A0,c0,rfl,hl0,hm0,hb0,he0⟩:=aD h0
 refine Y.enter (N:=5) Tryz.func66 rfl rfl (by simp) [(0,.slice A0 b.length c0)] (by simp) (l0:= []) trivial ?_
 refine Y.seq (Y.region (Y.ql rfl (aA rfl .c) (Y.nt (Y.seq (Y.region (Y.mv rfl .g1 (Y.ql rfl (bD rfl iJ (.t .z)) ?_)))))))
 refine Y.er .g2 (Y.as rfl .z (Y.nt (Y.ret ?_)))
 refine Y.i (aU rfl .z) .n ?_
 exact⟨rfl,rfl⟩

theorem aGq {w0:World}{S0:Bs} (a:Int) (b:Int):
    Calls Tryz.prog 74 #[.int .i64 a,.int .i64 b] w0 (aI w0 S0 (fun r l=>r= .int .i64 (eG a b)∧l= [])):=by
 refine Y.enter (N:=10) Tryz.func74 rfl rfl (by simp) [(0,.int .i64 a),(1,.int .i64 b)] (by simp) (l0:= []) trivial ?_
 refine Y.seq (Y.region (Y.ql rfl (aA rfl .c) (Y.nt (Y.seq (Y.seq (Y.region (Y.mv rfl .g1 ?_)))))))
 refine Y.mv rfl .g3 (Y.ql rfl (dA rfl (.t .g1) (.t .z)) (Y.nt ?_))
 refine Y.u (.t .z) (fun b1=> ?_) (fun b1=> ?_)
 refine Y.seq (Y.region (Y.mv rfl .g4 (Y.er .g4 (Y.as rfl .z (Y.nt (Y.ret (Y.j ?_)))))))
 refine Y.i (aU rfl .z) .n ?_
 exact⟨by first |(rw [aGz (by assumption)];done) |(rw [aH9 (by assumption)];done),rfl⟩
 refine Y.skip (Y.g (Y.seq (Y.region (Y.mv rfl .g5 (Y.er .g4 (Y.as rfl .z (Y.nt ?_)))))))
 refine Y.ret ?_
 refine Y.i (aU rfl .z) .n ?_
 exact⟨by first |(rw [aGz (by assumption)];done) |(rw [aH9 (by assumption)];done),rfl⟩

theorem aOc {w0:World}{S0:Bs}{xs:(List aF)}{v0:Value} (h0:bJ.ro w0 (FF w0 S0) xs [v0]) (hI:aZ xs=0):
    Calls Tryz.prog 65 #[v0] w0 (aI w0 S0 (fun r l=>r= .agg (List.map (Value.int .i64) (dR xs xs.length)).toArray∧l= [])):=by
 obtain⟨A0,c0,rfl,bj,bk,bm,bc⟩:=aD h0
 refine Y.enter (N:=33) Tryz.func65 rfl rfl (by simp) [(0,.slice A0 xs.length c0)] (by simp) (l0:= []) trivial ?_
 refine Y.seq (Y.region ?_)
 refine Y.el rfl (bB (cs:=List.map (Value.int .i64) (List.replicate 20 (0:Int))) (n:=20) rfl aKf rfl rfl) ?_
 rintro _ _ ⟨g2,rfl,rfl⟩
 refine Y.nt (Y.seq (Y.region ?_))
 refine Y.el rfl (bB (cs:=List.map (Value.int .i64) (List.replicate 20 (0:Int))) (n:=20) rfl aKf rfl rfl) ?_
 rintro _ _ ⟨g3,rfl,rfl⟩
 refine Y.nt (Y.seq (Y.seq (Y.region (Y.mv rfl .g2 (Y.ql rfl (bD rfl cQ (.t .z)) (Y.ql rfl (aR rfl .c) (Y.nil ?_)))))))
 refine Y.g (Y.block ?_)
 refine Y.ai (γ:=Nat) (fun k=> [(10,.int .i64 (k:Int)),(9,.int .i64 (xs.length:Int)),(8,.slice A0 xs.length c0),(3,.pointer (some ⟨g3,0,none⟩)),(2,.pointer (some ⟨g2,0,none⟩))]) (fun k=> [bV g3 105 20 1 (List.map (Value.int .i64) (dR xs k)),bV g2 105 20 1 (List.map (Value.int .i64) (List.replicate 20 (0:Int)))]) (fun k=>k≤xs.length) (fun k=>xs.length - k) 0 (Nat.zero_le _) (.c .z (.c .g1 (.c .g2 (.c .g3 (.c .g4 .n))))) (fun _ h=>h.sel (.c .z (.c .z .n))) ?_
 rintro k hk
 have hwt:(dR xs k).length=20:=cJ k
 refine Y.seq (Y.region (Y.ql rfl (dA rfl (.t .z) (.t .g1)) (Y.nt (Y.seq ?_))))
 refine Y.u (.t .z) (fun b4=> ?_) (fun b4=> ?_)
 refine Y.skip (Y.g (Y.seq (Y.block (Y.seq (Y.region ?_)))))
 obtain⟨bd,ah,ai⟩:=bc (by omega)
 subst ah
 obtain⟨x6,aj⟩:=aK (xs:=xs) (j:=k) (by omega)
 obtain⟨be,ar,au,av⟩:=ai.elem aj
 obtain⟨a7,a8,rfl,ak,al⟩:=bY ar
 obtain⟨aa,ab,rfl,aw,ax,ay,ac⟩:=aD ak
 obtain⟨am,an,rfl,az,a0,a1,a2⟩:=aD al
 have bn:=cO (i:=((k:Nat):Int)) aj (by omega)
 have bo:=cP (a:=((k:Nat):Int)) aj (by omega)
 have ad:=dM hI _ (List.mem_of_getElem? aj)
 refine Y.ql rfl (aB (j:=k) rfl cQ aT (.t .g3) (.t .g1) rfl (by omega)) ?_
 refine Y.ql rfl (qE rfl fH (.t .z) au av aT) ?_
 refine Y.el rfl (bB rfl sX rfl rfl) ?_
 rintro _ _ ⟨g10,rfl,rfl⟩
 refine Y.es (aE rfl) rfl (esW rfl (.t .z) (.t .g1) .z aT rfl rfl) ?_
 refine Y.nt (Y.seq (Y.region (Y.fa rfl .z dH (Y.ld rfl eZ .z .z (Y.ql rfl (bD rfl eF (.t .z)) (Y.ql rfl (aR rfl .c) (Y.nil ?_)))))))
 refine Y.g (Y.block ?_)
 have a3:dR xs k=iY x6 (dR xs k) 0:=rfl
 refine Y.ak .g1 (congrArg (fun z_=>(bV g3 105 20 1 (List.map (Value.int .i64) (z_)):Asn)) a3) ?_
 refine Y.ai (γ:=Nat) (fun q=> [(17,.int .i64 (q:Int)),(16,.int .i64 (x6.blocks.length:Int)),(15,.slice aa x6.blocks.length ab),(5,.pointer (some ⟨g10,0,none⟩)),(10,.int .i64 (k:Int)),(9,.int .i64 (xs.length:Int)),(8,.slice (some bd) xs.length c0),(3,.pointer (some ⟨g3,0,none⟩)),(2,.pointer (some ⟨g2,0,none⟩))]) (fun q=> [bV g3 105 20 1 (List.map (Value.int .i64) (iY x6 (dR xs k) q)),bV g10 46 5 1 [.int .i64 x6.kind,.int .i64 x6.links,.int .i64 x6.size,.slice aa x6.blocks.length ab,.slice am x6.ents.length an],bV g2 105 20 1 (List.map (Value.int .i64) (List.replicate 20 (0:Int)))]) (fun q=>q≤x6.blocks.length) (fun q=>x6.blocks.length - q) 0 (Nat.zero_le _) (.c .z (.c .g1 (.c .g2 (.c .g4 (.c .g8 (.c .g9 (.c .g10 (.c .g11 (.c .g12 .n))))))))) (fun _ h=>h.sel (.c .z (.c .z (.c .z .n)))) ?_
 rintro q hq
 have hwi:(iY x6 (dR xs k) q).length=20:=(eC q).trans (cJ k)
 refine Y.seq (Y.region (Y.ql rfl (dA rfl (.t .z) (.t .g1)) (Y.nt (Y.seq ?_))))
 refine Y.u (.t .z) (fun bf=> ?_) (fun bf=> ?_)
 refine Y.skip (Y.g (Y.seq (Y.block (Y.seq (Y.region (Y.mv rfl .g1 ?_))))))
 obtain⟨bg,ae,af⟩:=ac (by omega)
 subst ae
 obtain⟨a4,ag⟩:=aK (xs:=x6.blocks) (j:=q) (by omega)
 obtain⟨a9,ao,ap,aq⟩:=af.elem ag
 obtain⟨rfl,bh⟩:=ao
 have ba:=(lW ad).2 _ (List.mem_of_getElem? ag)
 have p4x14:=(lW ad).1
 have bb:=aEu ad
 refine Y.ql rfl (aB (j:=q) rfl eF jO (.t .g4) (.t .g2) rfl (by omega)) ?_
 refine Y.ql rfl (aM rfl bP (.t .z) (WS.i ap aq rfl)) (Y.as rfl .g2 (Y.as rfl .g1 (Y.nt (Y.region (Y.mv rfl .z (Y.fa rfl .g10 gU (Y.ld rfl bP .z .g1 ?_)))))))
 refine Y.mv rfl .g4 ?_
 refine Y.ql rfl (rH (c:=((q * 8:Nat):Int)) rfl (.t .z) .c (wr (by omega) (by omega) (by omega))) ?_
 refine Y.ql rfl (iT (c:=x6.size - ((q * 8:Nat):Int)) rfl (.t .g2) (.t .z) (wr (by omega) (by omega) (by omega))) ?_
 have bi:=jH 8 (x6.size - ((q * 8:Nat):Int))
 refine Y.ql rfl (aJ1 rfl .c (.t .z)) ?_
 refine Y.ql rfl (aA7 (j:=Int.toNat a4) rfl aKe jO (.t (.s16 .g4)) (.t .g6) (by omega) (by omega)) ?_
 refine Y.es (aE rfl) rfl (qX (off:=(Int.toNat a4) * 1) (cs:= [.int .i64 (eG 8 (x6.size - ((q * 8:Nat):Int)))]) rfl jO (.t .z) (.t .g1) rfl (pX rfl) .z (by have e1:(iY x6 (dR xs k) q).length=20:=(by(first | rfl | exact List.length_replicate | exact cJ _ |(rw [eC];exact cJ _) |(rw [List.length_set,eC];exact cJ _)));simp only [List.length_map,List.length_cons,List.length_nil];omega) (aIz (by have e1:(iY x6 (dR xs k) q).length=20:=(by(first | rfl | exact List.length_replicate | exact cJ _ |(rw [eC];exact cJ _) |(rw [List.length_set,eC];exact cJ _)));omega))) ?_
 have a5:List.set (iY x6 (dR xs k) q) (Int.toNat a4) (eG 8 (x6.size - ((q * 8:Nat):Int)))=iY x6 (dR xs k) (q+1):=(aEt ag)
 refine Y.ak .z (congrArg (fun z_=>(bV g3 105 20 1 (List.map (Value.int .i64) (z_)):Asn)) a5) ?_
 refine Y.nil (Y.ab (Y.g (Y.region ?_)))
 refine Y.ql rfl (bN (c:=((q+1:Nat):Int)) rfl (.t .g14) .c (wr (by omega) (by omega) (by omega))) ?_
 refine Y.er .g15 (Y.mv rfl .z (Y.nil ?_))
 refine Y.ae (q+1) (by omega) (by first | omega |(dsimp only;omega)) (.c .z (.c .g16 (.c (.s16 .g1) (.c (.s16 .g2) (.c (.s16 .g3) (.c (.s16 .g4) (.c (.s16 .g5) (.c (.s16 .g6) (.c (.s16 .g7) .n))))))))) (fun _ h=>h.sel (.c .z (.c .z (.c .z .n))))
 refine Y.exit (Y.y (Y.y (Y.ag (Y.ab (Y.g (Y.region ?_))))))
 refine Y.ql rfl (bN (c:=((k+1:Nat):Int)) rfl (.t .g5) .c (wr (by omega) (by omega) (by omega))) ?_
 refine Y.er .g6 (Y.mv rfl .z (Y.nil ?_))
 have a6:iY x6 (dR xs k) q=dR xs (k+1):=(aBv aj (by omega) (by omega))
 refine Y.ak .z (congrArg (fun z_=>(bV g3 105 20 1 (List.map (Value.int .i64) (z_)):Asn)) a6) ?_
 refine Y.ae (k+1) (by omega) (by first | omega |(dsimp only;omega)) (.c .z (.c .g7 (.c .g8 (.c .g9 (.c .g10 .n))))) (fun _ h=>h.sel (.c .z (.c .g1 .n)))
 refine Y.exit (Y.y (Y.y (Y.ag (Y.g (Y.seq (Y.region ?_))))))
 refine Y.ql rfl (tI (cs:=List.map (Value.int .i64) (dR xs k)) rfl aH7 (by rw [List.length_map,show(dR xs k).length=20 by first | rfl | exact List.length_replicate | exact cJ _ |(rw [eC];exact cJ _) |(rw [List.length_set,eC];exact cJ _)];exact aD5) (.t .g4) (WS.w .z (fun i u h=>h))) ?_
 refine Y.es (aE rfl) rfl (qX (off:=0) (cs:=List.map (Value.int .i64) (dR xs k)) rfl (by rw [List.length_map,show(dR xs k).length=20 by(first | rfl | exact List.length_replicate | exact cJ _ |(rw [eC];exact cJ _) |(rw [List.length_set,eC];exact cJ _))];exact aD5) (.t .g6) (.t .z) rfl (aIs _) .g1 (by have e1:(dR xs k).length=20:=(by(first | rfl | exact List.length_replicate | exact cJ _ |(rw [eC];exact cJ _) |(rw [List.length_set,eC];exact cJ _)));have e2:(List.replicate 20 (0:Int)).length=20:=(by(first | rfl | exact List.length_replicate | exact cJ _ |(rw [eC];exact cJ _) |(rw [List.length_set,eC];exact cJ _)));rw [List.length_map,List.length_map,e1,e2];decide) (aGn (by have e1:(dR xs k).length=20:=(by(first | rfl | exact List.length_replicate | exact cJ _ |(rw [eC];exact cJ _) |(rw [List.length_set,eC];exact cJ _)));have e2:(List.replicate 20 (0:Int)).length=20:=(by(first | rfl | exact List.length_replicate | exact cJ _ |(rw [eC];exact cJ _) |(rw [List.length_set,eC];exact cJ _)));rw [List.length_map,List.length_map,e1,e2]))) ?_
 refine Y.nt (Y.ret ?_)
 refine Y.i (aL5 (cs:=List.map (Value.int .i64) (dR xs k)) rfl .g6 aH7 (by rw [List.length_map,show(dR xs k).length=20 by first | rfl | exact List.length_replicate | exact cJ _ |(rw [eC];exact cJ _) |(rw [List.length_set,eC];exact cJ _)];exact aD5) (WS.w (cs:=List.map (Value.int .i64) (dR xs k)) .z (fun _ _ h=>h))) .n ?_
 exact⟨by rw [show k=xs.length by omega],rfl⟩

theorem aNv {w0:World}{S0:Bs}{f:DFs}{ao:List Value} (h0:dV.ro w0 (FF w0 S0) f ao) (ht:aX f=0):
    Calls Tryz.prog 35 #[.agg ao.toArray] w0 (aI w0 S0 (fun r l=>r= .int .i64 (aFb f)∧l= [])):=by
 obtain⟨ay,az,rfl,af,aj⟩:=bZ h0
 obtain⟨aa,ab,rfl,ap,aq,ar,au⟩:=aD af
 obtain⟨ac,ad,rfl,av,aw,ax,ag⟩:=aD aj
 have hI:=hU ht
 have hG:=uH ht
 have a7:=yH ht
 have a8:=lO hI
 have a0:=oK ht
 refine Y.enter (N:=21) Tryz.func35 rfl rfl (by simp) [(0,.agg #[.slice aa f.inodes.length ab,.slice ac f.data.length ad])] (by simp) (l0:= []) trivial ?_
 refine Y.seq (Y.region ?_)
 refine Y.el rfl (fQ (cs:= [.slice aa f.inodes.length ab,.slice ac f.data.length ad]) (n:=2) rfl (.t .z) rfl rfl) ?_
 rintro _ _ ⟨g3,rfl,rfl⟩
 refine Y.ql rfl (aA rfl .c) (Y.nt (Y.seq (Y.seq (Y.region (Y.fa rfl .g1 aP (Y.ld rfl bR .z .z ?_))))))
 refine Y.cl rfl rfl Tryz.func65 rfl rfl (bG (.t .z)) .n (fun _ _ hs tr=>aOc (tr.ctx af) (by assumption)) ?_
 rintro _ _ ⟨rfl,rfl⟩
 refine Y.m .n ?_
 refine Y.ql rfl (aR rfl .c) (Y.nt (Y.block ?_))
 refine Y.ai (γ:=Nat) (fun k=> [(8,.int .i64 (k:Int)),(7,.agg (List.map (Value.int .i64) (dR f.inodes f.inodes.length)).toArray),(1,.pointer (some ⟨g3,0,none⟩))]) (fun k=> [bV g3 27 2 1 [.slice aa f.inodes.length ab,.slice ac f.data.length ad]]) (fun k=>k≤20∧∀(j:Nat) (b:List UInt8),j<k→f.data[j]? =some b→(qL f)[j]? =some (b.length:Int)) (fun k=>20 - k) 0 ⟨Nat.zero_le _,eN (q:=fun j (b:List UInt8)=>(qL f)[j]? =some (b.length:Int))⟩ (.c .z (.c .g1 (.c .g5 .n))) (fun _ h=>h.sel (.c .z .n)) ?_
 rintro k ⟨hk,hallk⟩
 have hwl:(dR f.inodes f.inodes.length).length=20:=cJ _
 refine Y.seq (Y.region (Y.ql rfl (dA rfl (.t .z) .c) (Y.nt (Y.seq ?_))))
 refine Y.u (.t .z) (fun b4=> ?_) (fun b4=> ?_)
 refine Y.skip (Y.g (Y.seq (Y.block (Y.seq (Y.region (Y.mv rfl .g1 ?_))))))
 obtain⟨x5,ak⟩:=aK (xs:=dR f.inodes f.inodes.length) (j:=k) (by omega)
 refine Y.ql rfl (aDg (j:=k) rfl aKe jO bP (.t .g3) (.t .g2) rfl ak (by first | rfl | exact List.length_replicate | exact cJ _ |(rw [eC];exact cJ _) |(rw [List.length_set,eC];exact cJ _))) ?_
 refine Y.as rfl .g1 (Y.as rfl .g1 (Y.nt (Y.seq (Y.region (Y.fa rfl .g7 gQ (Y.ld rfl mS .z .z (Y.mv rfl .g3 ?_)))))))
 obtain⟨a9,ah,ai⟩:=ag (by omega)
 subst ah
 obtain⟨x7,al⟩:=aK (xs:=f.data) (j:=k) (by omega)
 obtain⟨a1,ae,am,an⟩:=ai.elem al
 obtain⟨ba,rfl⟩:=lS ae
 obtain⟨bb,bc,rfl,a2,a3,a4,a5⟩:=aD ae
 refine Y.ql rfl (aB (j:=k) rfl pH nY (.t .g1) (.t .z) rfl (by omega)) ?_
 refine Y.ql rfl (aM rfl oG (.t .z) (WS.i am an rfl)) ?_
 refine Y.cl rfl rfl Tryz.func66 rfl rfl (bG (.t .z)) .n (fun _ _ hs tr=>aN9 (tr.ctx ae)) ?_
 rintro _ _ ⟨rfl,rfl⟩
 refine Y.m .n ?_
 refine Y.mv rfl .g6 (Y.ql rfl (bW rfl (.t .g1) (.t .z)) (Y.nt ?_))
 refine Y.ac (.t .z) (fun a6=> ?_) (fun a6=> ?_)
 refine Y.seq (Y.region (Y.ql rfl (aA rfl .c) (Y.nt (Y.ret (Y.v (Y.j (Y.j ?_)))))))
 refine Y.v (Y.j ?_)
 refine Y.i (aU rfl .z) .n ?_
 exact⟨by first |(rw [aFh (aE9 al ak (by omega))];done) |(rw [aAw (tW (k:=k) (by omega) hallk)];done),rfl⟩
 refine Y.skip (Y.ab (Y.g (Y.region ?_)))
 refine Y.ql rfl (bN (c:=((k+1:Nat):Int)) rfl (.t .g13) .c (wr (by omega) (by omega) (by omega))) ?_
 refine Y.er .g14 (Y.mv rfl .z (Y.nil ?_))
 refine Y.ae (k+1) ⟨by omega,aIt hallk al ak (by omega)⟩ (by first | omega |(dsimp only;omega)) (.c .z (.c .g15 (.c .g16 .n))) (fun _ h=>h.sel (.c .z .n))
 refine Y.exit (Y.y (Y.y (Y.ag (Y.g (Y.seq (Y.region (Y.ql rfl (aA rfl .c) (Y.nil ?_))))))))
 refine Y.g (Y.ret ?_)
 refine Y.i (aU rfl .z) .n ?_
 exact⟨by first |(rw [aAw (tW (k:=k) (by omega) hallk)];done),rfl⟩

theorem aOh {w0:World}{S0:Bs}{f:DFs}{ax:Addr} (h0:eV dV w0 (FF w0 S0) ax f) (ht:aX f=0):
    Calls Tryz.prog 39 #[.pointer (some ax)] w0 (aI w0 S0 (fun r l=>r= .bool (decide (oA f))∧l= [])):=by
 obtain⟨c4,be,ce,bf⟩:=id h0
 obtain⟨cf,cg,rfl,bg,bh⟩:=bZ ce
 obtain⟨ch,ci,rfl,bs,bt,bu,ay⟩:=aD bg
 obtain⟨cj,ck,rfl,bv,bw,bx,az⟩:=aD bh
 have hI:=hU ht
 have hG:=uH ht
 have c5:=yH ht
 have c6:=lO hI
 have cm:=oK ht
 refine Y.enter (N:=72) Tryz.func39 rfl rfl (by simp) [(0,.pointer (some ax))] (by simp) (l0:= []) trivial ?_
 refine Y.seq (Y.region (Y.ql rfl (aA rfl .c) (Y.nt (Y.seq (Y.region ?_)))))
 refine Y.el rfl (lJ (n:=20) (x0:=(0:Int)) rfl eF gI rfl (fun _ _=>⟨rfl,trivial⟩) .c .c (by omega) (by omega)) ?_
 rintro _ _ rfl
 refine Y.h (WS.a .z) ?_
 rintro⟨cn,co,rfl,cp,cq,cr⟩
 refine Y.as rfl .z (Y.nt (Y.seq (Y.seq (Y.region (Y.ql rfl (aA rfl .c) (Y.nt ?_))))))
 refine Y.block ?_
 refine Y.ai (γ:=Nat×(Option Addr)×Nat) (fun⟨k,ab,ac⟩=> [(4,.int .i64 (k:Int)),(3,.slice ab (dR f.inodes k).length ac),(2,.bool false),(0,.pointer (some ax))]) (fun⟨k,ab,ac⟩=> [aH bK (dR f.inodes k) [.slice ab (dR f.inodes k).length ac]]) (fun⟨k,ab,ac⟩=>k≤f.inodes.length) (fun⟨k,ab,ac⟩=>f.inodes.length - k) (0,cn,co) (Nat.zero_le _) (.c .z (.c .g1 (.c .g3 (.c .g4 .n)))) (fun _ h=>h.sel (.c .z .n)) ?_
 rintro⟨k,ab,ac⟩ hk
 have hwt:(dR f.inodes k).length=20:=cJ k
 refine Y.seq (Y.seq (Y.region (Y.mv rfl .z (Y.mv rfl .g4 (Y.nc rfl .z (Y.fa rfl .z aP (Y.le rfl bR .z be bf (Y.ql rfl (bD rfl cQ (.t .z)) ?_))))))))
 refine Y.ql rfl (dA rfl (.t .g5) (.t .z)) (Y.nt ?_)
 refine Y.u (.t .z) (fun b5=> ?_) (fun b5=> ?_)
 refine Y.skip (Y.g (Y.seq (Y.block (Y.seq (Y.region (Y.mv rfl .g10 (Y.nc rfl .z (Y.fa rfl .z aP ?_))))))))
 refine Y.le rfl bR .z be bf (Y.mv rfl .g11 ?_)
 obtain⟨cs,a0,a1⟩:=ay (by omega)
 subst a0
 obtain⟨x7,a2⟩:=aK (xs:=f.inodes) (j:=k) (by first | omega |(simp <;> omega))
 obtain⟨ct,bi,ai,aj⟩:=a1.elem a2
 obtain⟨bz,b0,rfl,a3,a4⟩:=bY bi
 obtain⟨b1,b2,rfl,bj,bk,bm,ak⟩:=aD a3
 obtain⟨b3,b4,rfl,bn,bo,bp,bq⟩:=aD a4
 have c7:=cO (i:=((k:Nat):Int)) a2 (by omega)
 have c8:=cP (a:=((k:Nat):Int)) a2 (by omega)
 have al:=dM hI _ (List.mem_of_getElem? a2)
 refine Y.ql rfl (aB (j:=k) rfl cQ aT (.t .g1) (.t .z) rfl (by first | omega |(simp <;> omega))) ?_
 refine Y.as rfl .z (Y.nt (Y.seq (Y.region (Y.ql rfl (aA rfl .c) (Y.nt (Y.block ?_))))))
 have a5:dR f.inodes k=iY x7 (dR f.inodes k) 0:=rfl
 refine Y.eq .g16 (congrArg (fun z_=>(.slice ab (z_).length ac:Value)) a5) ?_
 refine Y.ak .z (congrArg (fun z_=>(aH bK (z_) [.slice ab (z_).length ac]:Asn)) a5) ?_
 refine Y.ai (γ:=Nat×(Option Addr)×Nat) (fun⟨q,ad,aa⟩=> [(3,.slice ad (iY x7 (dR f.inodes k) q).length aa),(6,.int .i64 (q:Int)),(5,.pointer (some (Addr.add cs (k * 5)))),(4,.int .i64 (k:Int)),(2,.bool false),(0,.pointer (some ax))]) (fun⟨q,ad,aa⟩=> [aH bK (iY x7 (dR f.inodes k) q) [.slice ad (iY x7 (dR f.inodes k) q).length aa]]) (fun⟨q,ad,aa⟩=>q≤x7.blocks.length) (fun⟨q,ad,aa⟩=>x7.blocks.length - q) (0,ab,ac) (Nat.zero_le _) (.c .z (.c .g1 (.c .g2 (.c .g16 (.c (.s16 .g1) (.c (.s16 .g2) .n)))))) (fun _ h=>h.sel (.c .z .n)) ?_
 rintro⟨q,ad,aa⟩ hq
 have hwi:(iY x7 (dR f.inodes k) q).length=20:=(eC q).trans (cJ k)
 refine Y.seq (Y.seq (Y.region (Y.mv rfl .g1 (Y.mv rfl .g3 (Y.nc rfl .z (Y.fa rfl .z dH (Y.le rfl eZ .z ai aj (Y.ql rfl (bD rfl eF (.t .z)) ?_))))))))
 refine Y.ql rfl (dA rfl (.t .g5) (.t .z)) (Y.nt ?_)
 refine Y.u (.t .z) (fun cu=> ?_) (fun cu=> ?_)
 refine Y.skip (Y.g (Y.seq (Y.block ?_)))
 refine Y.dr .g1 17 fR ?_
 refine Y.sc (qs 0 15++ [(15,false),(16,true),(17,false)]) (by kernel_rfl) ?_
 refine Y.dm rfl rfl .g1 .g7 (Y.dm rfl rfl .g1 .g10 (Y.dn rfl rfl .g1 .z (Y.df rfl rfl .g1 .z dH (Y.de rfl rfl .g1 eZ .z ai aj (Y.dm rfl rfl .g1 .g13 ?_)))))
 obtain⟨cv,am,an⟩:=ak (by omega)
 subst am
 obtain⟨a6,ao⟩:=aK (xs:=x7.blocks) (j:=q) (by first | omega |(simp <;> omega))
 obtain⟨b6,a7,a8,a9⟩:=an.elem ao
 obtain⟨rfl,cw⟩:=a7
 have b7:=(lW al).2 _ (List.mem_of_getElem? ao)
 have p4x14:=(lW al).1
 have b8:=aEu al
 refine Y.dk rfl rfl .g1 (aB (j:=q) rfl eF jO (.t .g1) (.t .z) rfl (by first | omega |(simp <;> omega))) ?_
 refine Y.dk rfl rfl .g1 (aM rfl bP (.t .z) (WS.i a8 a9 rfl)) (Y.dm rfl rfl .g1 (.s16 .g1) (Y.dn rfl rfl .g1 .z (Y.df rfl rfl .g1 .z gU (Y.de rfl rfl .g1 bP .z ai aj (Y.dm rfl rfl .g1 (.s16 .g4) ?_)))))
 refine Y.dk rfl rfl .g1 (rH (c:=((q * 8:Nat):Int)) rfl (.t .z) .c (wr (by omega) (by omega) (by omega))) ?_
 refine Y.dk rfl rfl .g1 (iT (c:=x7.size - ((q * 8:Nat):Int)) rfl (.t .g2) (.t .z) (wr (by omega) (by omega) (by omega))) ?_
 refine Y.call (aC rfl rfl) rfl (by decide) rfl (bE rfl Tryz.func74 rfl rfl (aS .c (.t .z))) .n (fun _ _ hs tr=>aGq _ _) ?_
 rintro _ _ ⟨rfl,rfl⟩
 refine Y.m .n ?_
 have cx:=jH 8 (x7.size - ((q * 8:Nat):Int))
 refine Y.sk .g1 ?_
 refine Y.h (WS.h .z (by first | omega |(simp <;> omega))) ?_
 rintro⟨ae,rfl⟩
 refine Y.dk rfl rfl .g1 (aB (j:=Int.toNat a6) rfl eF jO (.t .g15) (.t .g8) (by omega) (by first | omega |(simp <;> omega))) ?_
 refine Y.add (c:=aH (gS .i64) (eG 8 (x7.size - ((q * 8:Nat):Int))) [.int .i64 (eG 8 (x7.size - ((q * 8:Nat):Int)))]) (fun _ _=>⟨rfl,trivial⟩) ?_
 refine Y.es (aC rfl rfl) rfl (oV (j:=Int.toNat a6) rfl jO (.t .z) (.t .g1) rfl (.c .g1 (.c .z .n)) (by first | omega |(simp <;> omega))) ?_
 have ap:(iY x7 (dR f.inodes k) q).length=(List.set (iY x7 (dR f.inodes k) q) (Int.toNat a6) (eG 8 (x7.size - ((q * 8:Nat):Int)))).length:=(List.length_set ..).symm
 refine Y.eq .g16 (congrArg (fun z_=>(.slice (some ae) z_ aa:Value)) ap) ?_
 refine Y.eq (.s16 .g8) (congrArg (fun z_=>(.slice (some ae) z_ aa:Value)) ap) ?_
 refine Y.ak .z (congrArg (fun z_=>(aH bK (List.set (iY x7 (dR f.inodes k) q) (Int.toNat a6) (eG 8 (x7.size - ((q * 8:Nat):Int)))) [.slice (some ae) z_ aa]:Asn)) ap) ?_
 have aq:List.set (iY x7 (dR f.inodes k) q) (Int.toNat a6) (eG 8 (x7.size - ((q * 8:Nat):Int)))=iY x7 (dR f.inodes k) (q+1):=(aEt ao)
 refine Y.eq .z (congrArg (fun z_=>(.slice (some ae) (z_).length aa:Value)) aq) ?_
 refine Y.eq .g1 (congrArg (fun z_=>(.slice (some ae) (z_).length aa:Value)) aq) ?_
 refine Y.ak .z (congrArg (fun z_=>(aH bK (z_) [.slice (some ae) (z_).length aa]:Asn)) aq) ?_
 refine Y.sl rfl ?_
 refine Y.w ?_
 refine Y.af (by kernel_rfl) ?_
 refine Y.ab (Y.g (Y.region (Y.mv rfl (.s16 .g9) ?_)))
 refine Y.ql rfl (bN (c:=((q+1:Nat):Int)) rfl (.t .z) .c (wr (by omega) (by omega) (by omega))) ?_
 refine Y.er (.s16 .g11) (Y.as rfl .z (Y.nil ?_))
 refine Y.ae ((q+1),(some ae),aa) (by omega) (by first | omega |(dsimp only;omega)) (.c .g4 (.c .z (.c (.s16 .g12) (.c (.s16 .g13) (.c (.s16 .g14) (.c (.s16 .g15) .n)))))) (fun _ h=>h.sel (.c .z .n))
 refine Y.exit (Y.y (Y.y (Y.ag (Y.ab (Y.g (Y.region (Y.mv rfl .g10 ?_)))))))
 refine Y.ql rfl (bN (c:=((k+1:Nat):Int)) rfl (.t .z) .c (wr (by omega) (by omega) (by omega))) ?_
 refine Y.er .g12 (Y.as rfl .z (Y.nil ?_))
 have ba:iY x7 (dR f.inodes k) q=dR f.inodes (k+1):=(aBv a2 (by omega) (by omega))
 refine Y.eq .g10 (congrArg (fun z_=>(.slice ad (z_).length aa:Value)) ba) ?_
 refine Y.ak .z (congrArg (fun z_=>(aH bK (z_) [.slice ad (z_).length aa]:Asn)) ba) ?_
 refine Y.ae ((k+1),ad,aa) (by omega) (by first | omega |(dsimp only;omega)) (.c .g1 (.c .z (.c .g13 (.c .g14 .n)))) (fun _ h=>h.sel (.c .z .n))
 refine Y.exit (Y.y (Y.y (Y.ag (Y.g (Y.seq (Y.seq (Y.region (Y.ql rfl (aA rfl .c) ?_))))))))
 refine Y.nt (Y.block ?_)
 have bb:dR f.inodes k=qL f:=(by rw [show k=f.inodes.length by omega])
 refine Y.eq .g9 (congrArg (fun z_=>(.slice ab (z_).length ac:Value)) bb) ?_
 refine Y.ak .z (congrArg (fun z_=>(aH bK (z_) [.slice ab (z_).length ac]:Asn)) bb) ?_
 refine Y.ai (γ:=Nat×(Option Addr)×Nat) (fun⟨z,ag,af⟩=> [(3,.slice ag (qL f).length af),(7,.int .i64 (z:Int)),(0,.pointer (some ax))]) (fun⟨z,ag,af⟩=> [aH bK (qL f) [.slice ag (qL f).length af]]) (fun⟨z,ag,af⟩=>z≤f.data.length∧∀(j:Nat) (b:List UInt8),j<z→f.data[j]? =some b→(qL f)[j]? =some (b.length:Int)) (fun⟨z,ag,af⟩=>f.data.length - z) (0,ab,ac) ⟨Nat.zero_le _,eN (q:=fun j (b:List UInt8)=>(qL f)[j]? =some (b.length:Int))⟩ (.c .z (.c .g1 (.c .g11 .n))) (fun _ h=>h.sel (.c .z .n)) ?_
 rintro⟨z,ag,af⟩ ⟨hz,hallz⟩
 have hwl:(qL f).length=20:=cJ _
 refine Y.seq (Y.seq (Y.region (Y.mv rfl .g1 (Y.mv rfl .g3 (Y.nc rfl .z (Y.fa rfl .z gQ (Y.le rfl mS .z be bf (Y.ql rfl (bD rfl pH (.t .z)) ?_))))))))
 refine Y.ql rfl (dA rfl (.t .g5) (.t .z)) (Y.nt ?_)
 refine Y.u (.t .z) (fun cy=> ?_) (fun cy=> ?_)
 refine Y.skip (Y.g (Y.seq (Y.block (Y.seq ?_))))
 refine Y.dr .z 13 fR ?_
 refine Y.sc (qs 0 13) (by kernel_rfl) ?_
 refine Y.dm rfl rfl .z .g9 (Y.dn rfl rfl .z .z (Y.df rfl rfl .z .z gQ (Y.de rfl rfl .z mS .z be bf (Y.dm rfl rfl .z .g12 ?_))))
 obtain⟨cz,ar,au⟩:=az (by omega)
 subst ar
 obtain⟨c9,av⟩:=aK (xs:=f.data) (j:=z) (by first | omega |(simp <;> omega))
 obtain⟨b9,ah,bc,bd⟩:=au.elem av
 obtain⟨c0,rfl⟩:=lS ah
 obtain⟨c1,c2,rfl,ca,cb,cc,cd⟩:=aD ah
 refine Y.dk rfl rfl .z (aB (j:=z) rfl pH nY (.t .g1) (.t .z) rfl (by first | omega |(simp <;> omega))) ?_
 refine Y.dk rfl rfl .z (aM rfl oG (.t .z) (WS.i bc bd rfl)) (Y.dk rfl rfl .z (bD rfl iJ (.t .z)) (Y.dm rfl rfl .z .g15 (Y.dm rfl rfl .z (.s16 .g1) ?_)))
 refine Y.h (WS.h .z (by first | omega |(simp <;> omega))) ?_
 rintro⟨br,rfl⟩
 refine Y.dk rfl rfl .z (aB (j:=z) rfl eF jO (.t .g1) (.t .z) rfl (by first | omega |(simp <;> omega))) ?_
 obtain⟨da,aw⟩:=aK (xs:=qL f) (j:=z) (by first | omega |(simp <;> omega))
 refine Y.dk rfl rfl .z (aM rfl bP (.t .z) (WS.m .z aw)) (Y.dk rfl rfl .z (bW rfl (.t .g4) (.t .z)) (Y.w ?_))
 refine Y.af (by kernel_rfl) ?_
 refine Y.g ?_
 refine Y.ac (.t .z) (fun c3=> ?_) (fun c3=> ?_)
 refine Y.seq (Y.region (Y.ql rfl (aA rfl .c) (Y.nt (Y.ret (Y.v (Y.j (Y.j ?_)))))))
 refine Y.v (Y.j ?_)
 refine Y.i (aU rfl .z) .n ?_
 exact⟨by first |(rw [decide_eq_true (tW (k:=z) (by omega) hallz)];done) |(rw [decide_eq_false (aE9 av aw (by omega))];done),rfl⟩
 refine Y.skip (Y.ab (Y.g (Y.region (Y.mv rfl (.s16 .g5) ?_))))
 refine Y.ql rfl (bN (c:=((z+1:Nat):Int)) rfl (.t .z) .c (wr (by omega) (by omega) (by omega))) ?_
 refine Y.er (.s16 .g7) (Y.as rfl .z (Y.nil ?_))
 refine Y.ae ((z+1),(some br),af) ⟨by omega,aIt hallz av aw (by omega)⟩ (by first | omega |(dsimp only;omega)) (.c (.s16 .g7) (.c .z (.c (.s16 .g8) .n))) (fun _ h=>h.sel (.c .z .n))
 refine Y.exit (Y.y (Y.y (Y.ag (Y.g (Y.seq (Y.region (Y.ql rfl (aA rfl .c) (Y.nil ?_))))))))
 refine Y.g (Y.ret ?_)
 refine Y.i (aU rfl .z) .n ?_
 exact⟨by first |(rw [decide_eq_true (tW (k:=z) (by omega) hallz)];done),rfl⟩

theorem aIi {w0:World}{S0:Bs}{f:DFs}{ag:List Value} (h0:dV.ro w0 (FF w0 S0) f ag):
    Calls Tryz.prog 16 #[.agg ag.toArray] w0 (aI w0 S0 (fun r l=>r= .int .i64 (cS f)∧l= [])):=by
 obtain⟨ap,aq,rfl,aa,ab⟩:=bZ h0
 obtain⟨ac,ad,rfl,ah,ai,aj,ak⟩:=aD aa
 obtain⟨ae,af,rfl,al,am,an,ao⟩:=aD ab
 refine Y.enter (N:=17) Tryz.func16 rfl rfl (by simp) [(0,.agg #[.slice ac f.inodes.length ad,.slice ae f.data.length af])] (by simp) (l0:= []) trivial ?_
 refine Y.seq (Y.region ?_)
 refine Y.el rfl (fQ (cs:= [.slice ac f.inodes.length ad,.slice ae f.data.length af]) (n:=2) rfl (.t .z) rfl rfl) ?_
 rintro _ _ ⟨g3,rfl,rfl⟩
 refine Y.ql rfl (aA rfl .c) (Y.nt (Y.seq (Y.seq (Y.region (Y.ql rfl (qW rfl bX (.t .g1) .z bA) ?_)))))
 refine Y.cl rfl rfl Tryz.func33 rfl rfl (bG (.t .z)) .n (fun _ _ hs tr=>aMe (aJ f (tr.ctx aa) (tr.ctx ab))) ?_
 rintro _ _ ⟨rfl,rfl⟩
 refine Y.m .n ?_
 refine Y.as rfl .z (Y.nt (Y.seq (Y.region (Y.mv rfl .z (Y.ql rfl (bW rfl (.t .z) .c) (Y.nt ?_))))))
 refine Y.ac (.t .z) (fun b4=> ?_) (fun b4=> ?_)
 refine Y.seq (Y.region (Y.mv rfl .g2 (Y.er .g6 (Y.as rfl .z (Y.nt (Y.ret (Y.j ?_)))))))
 refine Y.i (aU rfl .z) .n ?_
 exact⟨by first |(rw [mJ (by assumption)];done) |(rw [mF (by assumption) (by assumption)];done) |(rw [mH (by assumption) (by assumption)];done) |(rw [fW (by assumption) (.inl (by assumption))];done) |(rw [fW (by assumption) (.inr (by assumption))];done) |(rw [lR (by assumption) (by assumption) (by assumption)];done),rfl⟩
 refine Y.skip (Y.g (Y.seq (Y.seq (Y.region (Y.ql rfl (qW rfl bX (.t .g6) .z bA) ?_)))))
 refine Y.cl rfl rfl Tryz.func34 rfl rfl (bG (.t .z)) .n (fun _ _ hs tr=>aOf (aJ f (tr.ctx aa) (tr.ctx ab)) (by assumption)) ?_
 rintro _ _ ⟨rfl,rfl⟩
 refine Y.m .n ?_
 refine Y.as rfl .z (Y.nt (Y.seq (Y.region (Y.mv rfl .z (Y.ql rfl (bW rfl (.t .z) .c) (Y.nt ?_))))))
 refine Y.ac (.t .z) (fun b5=> ?_) (fun b5=> ?_)
 refine Y.seq (Y.region (Y.mv rfl .g2 (Y.er .g11 (Y.as rfl .z (Y.nt (Y.ret (Y.j ?_)))))))
 refine Y.i (aU rfl .z) .n ?_
 exact⟨by first |(rw [mJ (by assumption)];done) |(rw [mF (by assumption) (by assumption)];done) |(rw [mH (by assumption) (by assumption)];done) |(rw [fW (by assumption) (.inl (by assumption))];done) |(rw [fW (by assumption) (.inr (by assumption))];done) |(rw [lR (by assumption) (by assumption) (by assumption)];done),rfl⟩
 refine Y.skip (Y.g (Y.seq (Y.region (Y.ql rfl (qW rfl bX (.t .g11) .z bA) ?_))))
 refine Y.cl rfl rfl Tryz.func35 rfl rfl (bG (.t .z)) .n (fun _ _ hs tr=>aNv (aJ f (tr.ctx aa) (tr.ctx ab)) (by assumption)) ?_
 rintro _ _ ⟨rfl,rfl⟩
 refine Y.m .n ?_
 refine Y.er .g12 (Y.as rfl .z (Y.nt (Y.ret ?_)))
 refine Y.i (aU rfl .z) .n ?_
 exact⟨by first |(rw [mJ (by assumption)];done) |(rw [mF (by assumption) (by assumption)];done) |(rw [mH (by assumption) (by assumption)];done) |(rw [fW (by assumption) (.inl (by assumption))];done) |(rw [fW (by assumption) (.inr (by assumption))];done) |(rw [lR (by assumption) (by assumption) (by assumption)];done),rfl⟩

theorem aLk {w0:World}{S0:Bs}{f:DFs}{aa:Addr} (h0:eV dV w0 (FF w0 S0) aa f):
    Calls Tryz.prog 18 #[.pointer (some aa)] w0 (aI w0 S0 (fun r l=>r= .int .i64 (cS f)∧l= [])):=by
 obtain⟨au,av,al,aw⟩:=id h0
 obtain⟨am,an,rfl,ab,ac⟩:=bZ al
 obtain⟨ao,ap,rfl,ad,ae,af,ag⟩:=aD ab
 obtain⟨aq,ar,rfl,ah,ai,aj,ak⟩:=aD ac
 refine Y.enter (N:=17) Tryz.func18 rfl rfl (by simp) [(0,.pointer (some aa))] (by simp) (l0:= []) trivial ?_
 refine Y.seq (Y.region (Y.ql rfl (aA rfl .c) (Y.nt (Y.seq (Y.seq (Y.region (Y.mv rfl .g1 ?_)))))))
 refine Y.cl rfl rfl Tryz.func37 rfl rfl (bG (.t .z)) .n (fun _ _ hs tr=>aL4 (tr.ctxP h0)) ?_
 rintro _ _ ⟨rfl,rfl⟩
 refine Y.m .n ?_
 refine Y.as rfl .z (Y.nt (Y.seq (Y.region (Y.mv rfl .z (Y.ql rfl (bW rfl (.t .z) .c) (Y.nt ?_))))))
 refine Y.ac (.t .z) (fun b3=> ?_) (fun b3=> ?_)
 refine Y.seq (Y.region (Y.mv rfl .g2 (Y.er .g6 (Y.as rfl .z (Y.nt (Y.ret (Y.j ?_)))))))
 refine Y.i (aU rfl .z) .n ?_
 exact⟨by first |(rw [mJ (by assumption)];done) |(rw [mF (by assumption) (by assumption)];done) |(rw [mH (by assumption) (by assumption)];done) |(rw [fW (by assumption) (.inl (by assumption))];done) |(rw [fW (by assumption) (.inr (by assumption))];done) |(rw [lR (by assumption) (by assumption) (by assumption)];done),rfl⟩
 refine Y.skip (Y.g (Y.seq (Y.seq (Y.region (Y.mv rfl .g6 ?_)))))
 refine Y.cl rfl rfl Tryz.func38 rfl rfl (bG (.t .z)) .n (fun _ _ hs tr=>aOw (tr.ctxP h0) (by assumption)) ?_
 rintro _ _ ⟨rfl,rfl⟩
 refine Y.m .n ?_
 refine Y.ql rfl (fF rfl (.t .z)) (Y.mv rfl .z ?_)
 refine Y.an .z (fun g4=> ?_) (fun g4=> ?_)
 refine Y.r rfl rfl .z rfl rfl (by decide) rfl ?_
 refine Y.r rfl rfl .g1 rfl rfl (by decide) rfl ?_
 refine Y.r rfl rfl .g2 rfl rfl (by decide) rfl ?_
 refine Y.ql rfl (bI rfl (.t .g3) .c) (Y.nt ?_)
 refine Y.aq (.t .z) ?_
 refine Y.seq (Y.region (Y.er .g13 (Y.ql rfl (aA rfl .c) (Y.nt (Y.ret (Y.j ?_))))))
 refine Y.i (aU rfl .z) .n ?_
 exact⟨by first |(rw [mJ (by assumption)];done) |(rw [mF (by assumption) (by assumption)];done) |(rw [mH (by assumption) (by assumption)];done) |(rw [fW (by assumption) (.inl (by assumption))];done) |(rw [fW (by assumption) (.inr (by assumption))];done) |(rw [lR (by assumption) (by assumption) (by assumption)];done),rfl⟩
 refine Y.qg rfl rfl .z rfl rfl rfl (aR rfl (.t .g10)) ?_
 refine Y.call (eB rfl rfl .g1) rfl (by decide) rfl (bE rfl Tryz.func39 rfl rfl (bG (.t .z))) .n (fun _ _ hs tr=>aOh (tr.ctxP h0) (by assumption)) ?_
 rintro _ _ ⟨rfl,rfl⟩
 refine Y.m .n ?_
 refine Y.qg rfl rfl .g2 rfl rfl rfl (fF rfl (.t .z)) ?_
 refine Y.ql rfl (bH rfl (.t .g3) (.t .z)) (Y.nt ?_)
 refine Y.ac (.t .z) (fun b5=> ?_) (fun b5=> ?_)
 refine Y.seq (Y.region (Y.er .g13 (Y.ql rfl (aA rfl .c) (Y.nt (Y.ret (Y.j ?_))))))
 refine Y.i (aU rfl .z) .n ?_
 exact⟨by first |(rw [mJ (by assumption)];done) |(rw [mF (by assumption) (by assumption)];done) |(rw [mH (by assumption) (by assumption)];done) |(rw [fW (by assumption) (.inl (by assumption))];done) |(rw [fW (by assumption) (.inr (by assumption))];done) |(rw [lR (by assumption) (by assumption) (by assumption)];done),rfl⟩
 refine Y.skip (Y.g (Y.seq (Y.region (Y.er .g13 (Y.ql rfl (aA rfl .c) (Y.nt (Y.ret ?_)))))))
 refine Y.i (aU rfl .z) .n ?_
 exact⟨by first |(rw [mJ (by assumption)];done) |(rw [mF (by assumption) (by assumption)];done) |(rw [mH (by assumption) (by assumption)];done) |(rw [fW (by assumption) (.inl (by assumption))];done) |(rw [fW (by assumption) (.inr (by assumption))];done) |(rw [lR (by assumption) (by assumption) (by assumption)];done),rfl⟩

end Go.Proofs.YtmejbfmhaoilmaaGreatDoor

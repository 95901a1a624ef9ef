/- What is proved: contracts of functions, one a function. No condition. -/
import Derived.Test.YtmejbfmhaoilmaaGreatBase1
import Derived.Test.YtmejbfmhaoilmaaGreatW23
import Derived.Test.YtmejbfmhaoilmaaGreatTypesA
namespace Go.Proofs.YtmejbfmhaoilmaaGreat
open Go Go.RowKit
set_option linter.unusedVariables false
set_option linter.unusedSimpArgs false
set_option maxHeartbeats 1000000
set_option maxRecDepth 20000
theorem aHy {w0:World}{S0:Bs}{b:(List UInt8)}{v0:Value} (h0:bX.ro w0 (FF w0 S0) b [v0]):
    Calls Tryz.prog 88 #[v0] w0 (aI w0 S0 (fun r l=>r= .int .i64 b.length∧l= [])):=by
 obtain⟨A0,c0,rfl,hl0,hm0,hb0,he0⟩:=aD h0
 refine Y.enter (N:=5) Tryz.func88 rfl rfl (by simp) [(0,.slice A0 b.length c0)] (by simp) (l0:= []) trivial ?_
 refine Y.seq (Y.region (Y.ql rfl (aA rfl .c) (Y.nt (Y.seq (Y.region (Y.mv rfl .g1 (Y.ql rfl (bE rfl fO (.t .z)) ?_)))))))
 refine Y.er .g2 (Y.as rfl .z (Y.nt (Y.ret ?_)))
 refine Y.j (aT rfl .z) .n ?_
 exact⟨rfl,rfl⟩

theorem aHi {w0:World}{S0:Bs} (a:Int) (b:Int):
    Calls Tryz.prog 47 #[.int .i64 a,.int .i64 b] w0 (aI w0 S0 (fun r l=>r= .int .i64 (eM a b)∧l= [])):=by
 refine Y.enter (N:=10) Tryz.func47 rfl rfl (by simp) [(0,.int .i64 a),(1,.int .i64 b)] (by simp) (l0:= []) trivial ?_
 refine Y.seq (Y.region (Y.ql rfl (aA rfl .c) (Y.nt (Y.seq (Y.seq (Y.region (Y.mv rfl .g1 ?_)))))))
 refine Y.mv rfl .g3 (Y.ql rfl (cU rfl (.t .g1) (.t .z)) (Y.nt ?_))
 refine Y.u (.t .z) (fun b1=> ?_) (fun b1=> ?_)
 refine Y.seq (Y.region (Y.mv rfl .g4 (Y.er .g4 (Y.as rfl .z (Y.nt (Y.ret (Y.m ?_)))))))
 refine Y.j (aT rfl .z) .n ?_
 exact⟨by first |(rw [aG8 (by assumption)];done) |(rw [aGs (by assumption)];done),rfl⟩
 refine Y.skip (Y.g (Y.seq (Y.region (Y.mv rfl .g5 (Y.er .g4 (Y.as rfl .z (Y.nt ?_)))))))
 refine Y.ret ?_
 refine Y.j (aT rfl .z) .n ?_
 exact⟨by first |(rw [aG8 (by assumption)];done) |(rw [aGs (by assumption)];done),rfl⟩

theorem aLt {w0:World}{S0:Bs}{xs:(List aF)}{v0:Value} (h0:aW.ro w0 (FF w0 S0) xs [v0]) (hI:bJ xs=0):
    Calls Tryz.prog 141 #[v0] w0 (aI w0 S0 (fun r l=>r= .agg (List.map (Value.int .i64) (dK xs xs.length)).toArray∧l= [])):=by
 obtain⟨A0,c0,rfl,bj,bk,bm,bc⟩:=aD h0
 refine Y.enter (N:=33) Tryz.func141 rfl rfl (by simp) [(0,.slice A0 xs.length c0)] (by simp) (l0:= []) trivial ?_
 refine Y.seq (Y.region ?_)
 refine Y.el rfl (bD (cs:=List.map (Value.int .i64) (List.replicate 20 (0:Int))) (n:=20) rfl aI1 rfl rfl) ?_
 rintro _ _ ⟨g2,rfl,rfl⟩
 refine Y.nt (Y.seq (Y.region ?_))
 refine Y.el rfl (bD (cs:=List.map (Value.int .i64) (List.replicate 20 (0:Int))) (n:=20) rfl aI1 rfl rfl) ?_
 rintro _ _ ⟨g3,rfl,rfl⟩
 refine Y.nt (Y.seq (Y.seq (Y.region (Y.mv rfl .g2 (Y.ql rfl (bE rfl cI (.t .z)) (Y.ql rfl (aS rfl .c) (Y.nil ?_)))))))
 refine Y.g (Y.block ?_)
 refine Y.ah (γ:=Nat) (fun k=> [(10,.int .i64 (k:Int)),(9,.int .i64 (xs.length:Int)),(8,.slice A0 xs.length c0),(3,.pointer (some ⟨g3,0,none⟩)),(2,.pointer (some ⟨g2,0,none⟩))]) (fun k=> [bZ g3 163 20 1 (List.map (Value.int .i64) (dK xs k)),bZ g2 163 20 1 (List.map (Value.int .i64) (List.replicate 20 (0:Int)))]) (fun k=>k≤xs.length) (fun k=>xs.length - k) 0 (Nat.zero_le _) (.c .z (.c .g1 (.c .g2 (.c .g3 (.c .g4 .n))))) (fun _ h=>h.sel (.c .z (.c .z .n))) ?_
 rintro k hk
 have hwt:(dK xs k).length=20:=cE k
 refine Y.seq (Y.region (Y.ql rfl (cU rfl (.t .z) (.t .g1)) (Y.nt (Y.seq ?_))))
 refine Y.u (.t .z) (fun b4=> ?_) (fun b4=> ?_)
 refine Y.skip (Y.g (Y.seq (Y.block (Y.seq (Y.region ?_)))))
 obtain⟨bd,ah,ai⟩:=bc (by omega)
 subst ah
 obtain⟨x6,aj⟩:=aJ (xs:=xs) (j:=k) (by omega)
 obtain⟨be,ar,au,av⟩:=ai.elem aj
 obtain⟨a7,a8,rfl,ak,al⟩:=bV ar
 obtain⟨aa,ab,rfl,aw,ax,ay,ac⟩:=aD ak
 obtain⟨am,an,rfl,az,a0,a1,a2⟩:=aD al
 have bn:=cZ (i:=((k:Nat):Int)) aj (by omega)
 have bo:=dD (a:=((k:Nat):Int)) aj (by omega)
 have ad:=dI hI _ (List.mem_of_getElem? aj)
 refine Y.ql rfl (aB (j:=k) rfl cI aU (.t .g3) (.t .g1) rfl (by omega)) ?_
 refine Y.ql rfl (qE rfl fA (.t .z) au av aU) ?_
 refine Y.el rfl (bD rfl qH rfl rfl) ?_
 rintro _ _ ⟨g10,rfl,rfl⟩
 refine Y.es (aE rfl) rfl (esW rfl (.t .z) (.t .g1) .z aU rfl rfl) ?_
 refine Y.nt (Y.seq (Y.region (Y.fa rfl .z cS (Y.ld rfl eP .z .z (Y.ql rfl (bE rfl dN (.t .z)) (Y.ql rfl (aS rfl .c) (Y.nil ?_)))))))
 refine Y.g (Y.block ?_)
 have a3:dK xs k=iE x6 (dK xs k) 0:=rfl
 refine Y.aj .g1 (congrArg (fun z_=>(bZ g3 163 20 1 (List.map (Value.int .i64) (z_)):Asn)) a3) ?_
 refine Y.ah (γ:=Nat) (fun q=> [(17,.int .i64 (q:Int)),(16,.int .i64 (x6.blocks.length:Int)),(15,.slice aa x6.blocks.length ab),(5,.pointer (some ⟨g10,0,none⟩)),(10,.int .i64 (k:Int)),(9,.int .i64 (xs.length:Int)),(8,.slice (some bd) xs.length c0),(3,.pointer (some ⟨g3,0,none⟩)),(2,.pointer (some ⟨g2,0,none⟩))]) (fun q=> [bZ g3 163 20 1 (List.map (Value.int .i64) (iE x6 (dK xs k) q)),bZ g10 44 5 1 [.int .i64 x6.kind,.int .i64 x6.links,.int .i64 x6.size,.slice aa x6.blocks.length ab,.slice am x6.ents.length an],bZ g2 163 20 1 (List.map (Value.int .i64) (List.replicate 20 (0:Int)))]) (fun q=>q≤x6.blocks.length) (fun q=>x6.blocks.length - q) 0 (Nat.zero_le _) (.c .z (.c .g1 (.c .g2 (.c .g4 (.c .g8 (.c .g9 (.c .g10 (.c .g11 (.c .g12 .n))))))))) (fun _ h=>h.sel (.c .z (.c .z (.c .z .n)))) ?_
 rintro q hq
 have hwi:(iE x6 (dK xs k) q).length=20:=(eC q).trans (cE k)
 refine Y.seq (Y.region (Y.ql rfl (cU rfl (.t .z) (.t .g1)) (Y.nt (Y.seq ?_))))
 refine Y.u (.t .z) (fun bf=> ?_) (fun bf=> ?_)
 refine Y.skip (Y.g (Y.seq (Y.block (Y.seq (Y.region (Y.mv rfl .g1 ?_))))))
 obtain⟨bg,ae,af⟩:=ac (by omega)
 subst ae
 obtain⟨a4,ag⟩:=aJ (xs:=x6.blocks) (j:=q) (by omega)
 obtain⟨a9,ao,ap,aq⟩:=af.elem ag
 obtain⟨rfl,bh⟩:=ao
 have ba:=(jP ad).2 _ (List.mem_of_getElem? ag)
 have p4x14:=(jP ad).1
 have bb:=aDl ad
 refine Y.ql rfl (aB (j:=q) rfl dN hP (.t .g4) (.t .g2) rfl (by omega)) ?_
 refine Y.ql rfl (aN rfl bR (.t .z) (WS.i ap aq rfl)) (Y.as rfl .g2 (Y.as rfl .g1 (Y.nt (Y.region (Y.mv rfl .z (Y.fa rfl .g10 gH (Y.ld rfl bR .z .g1 ?_)))))))
 refine Y.mv rfl .g4 ?_
 refine Y.ql rfl (pF (c:=((q * 8:Nat):Int)) rfl (.t .z) .c (wr (by omega) (by omega) (by omega))) ?_
 refine Y.ql rfl (jO (c:=x6.size - ((q * 8:Nat):Int)) rfl (.t .g2) (.t .z) (wr (by omega) (by omega) (by omega))) ?_
 have bi:=jC 8 (x6.size - ((q * 8:Nat):Int))
 refine Y.ql rfl (aI5 rfl .c (.t .z)) ?_
 refine Y.ql rfl (zQ (j:=Int.toNat a4) rfl aI4 hP (.t (.s16 .g4)) (.t .g6) (by omega) (by omega)) ?_
 refine Y.es (aE rfl) rfl (qR (off:=(Int.toNat a4) * 1) (cs:= [.int .i64 (eM 8 (x6.size - ((q * 8:Nat):Int)))]) rfl hP (.t .z) (.t .g1) rfl (nJ rfl) .z (by have e1:(iE x6 (dK xs k) q).length=20:=(by(first | rfl | exact List.length_replicate | exact cE _ |(rw [eC];exact cE _) |(rw [List.length_set,eC];exact cE _)));simp only [List.length_map,List.length_cons,List.length_nil];omega) (aH2 (by have e1:(iE x6 (dK xs k) q).length=20:=(by(first | rfl | exact List.length_replicate | exact cE _ |(rw [eC];exact cE _) |(rw [List.length_set,eC];exact cE _)));omega))) ?_
 have a5:List.set (iE x6 (dK xs k) q) (Int.toNat a4) (eM 8 (x6.size - ((q * 8:Nat):Int)))=iE x6 (dK xs k) (q+1):=(aD3 ag)
 refine Y.aj .z (congrArg (fun z_=>(bZ g3 163 20 1 (List.map (Value.int .i64) (z_)):Asn)) a5) ?_
 refine Y.nil (Y.y (Y.g (Y.region ?_)))
 refine Y.ql rfl (bG (c:=((q+1:Nat):Int)) rfl (.t .g14) .c (wr (by omega) (by omega) (by omega))) ?_
 refine Y.er .g15 (Y.mv rfl .z (Y.nil ?_))
 refine Y.ae (q+1) (by omega) (by first | omega |(dsimp only;omega)) (.c .z (.c .g16 (.c (.s16 .g1) (.c (.s16 .g2) (.c (.s16 .g3) (.c (.s16 .g4) (.c (.s16 .g5) (.c (.s16 .g6) (.c (.s16 .g7) .n))))))))) (fun _ h=>h.sel (.c .z (.c .z (.c .z .n))))
 refine Y.exit (Y.w (Y.w (Y.ag (Y.y (Y.g (Y.region ?_))))))
 refine Y.ql rfl (bG (c:=((k+1:Nat):Int)) rfl (.t .g5) .c (wr (by omega) (by omega) (by omega))) ?_
 refine Y.er .g6 (Y.mv rfl .z (Y.nil ?_))
 have a6:iE x6 (dK xs k) q=dK xs (k+1):=(aBc aj (by omega) (by omega))
 refine Y.aj .z (congrArg (fun z_=>(bZ g3 163 20 1 (List.map (Value.int .i64) (z_)):Asn)) a6) ?_
 refine Y.ae (k+1) (by omega) (by first | omega |(dsimp only;omega)) (.c .z (.c .g7 (.c .g8 (.c .g9 (.c .g10 .n))))) (fun _ h=>h.sel (.c .z (.c .g1 .n)))
 refine Y.exit (Y.w (Y.w (Y.ag (Y.g (Y.seq (Y.region ?_))))))
 refine Y.ql rfl (nF (cs:=List.map (Value.int .i64) (dK xs k)) rfl aF4 (by rw [List.length_map,show(dK xs k).length=20 by first | rfl | exact List.length_replicate | exact cE _ |(rw [eC];exact cE _) |(rw [List.length_set,eC];exact cE _)];exact aCh) (.t .g4) (WS.v .z (fun i u h=>h))) ?_
 refine Y.es (aE rfl) rfl (qR (off:=0) (cs:=List.map (Value.int .i64) (dK xs k)) rfl (by rw [List.length_map,show(dK xs k).length=20 by(first | rfl | exact List.length_replicate | exact cE _ |(rw [eC];exact cE _) |(rw [List.length_set,eC];exact cE _))];exact aCh) (.t .g6) (.t .z) rfl (aFy _) .g1 (by have e1:(dK xs k).length=20:=(by(first | rfl | exact List.length_replicate | exact cE _ |(rw [eC];exact cE _) |(rw [List.length_set,eC];exact cE _)));have e2:(List.replicate 20 (0:Int)).length=20:=(by(first | rfl | exact List.length_replicate | exact cE _ |(rw [eC];exact cE _) |(rw [List.length_set,eC];exact cE _)));rw [List.length_map,List.length_map,e1,e2];decide) (aE2 (by have e1:(dK xs k).length=20:=(by(first | rfl | exact List.length_replicate | exact cE _ |(rw [eC];exact cE _) |(rw [List.length_set,eC];exact cE _)));have e2:(List.replicate 20 (0:Int)).length=20:=(by(first | rfl | exact List.length_replicate | exact cE _ |(rw [eC];exact cE _) |(rw [List.length_set,eC];exact cE _)));rw [List.length_map,List.length_map,e1,e2]))) ?_
 refine Y.nt (Y.ret ?_)
 refine Y.j (aKl (cs:=List.map (Value.int .i64) (dK xs k)) rfl .g6 aF4 (by rw [List.length_map,show(dK xs k).length=20 by first | rfl | exact List.length_replicate | exact cE _ |(rw [eC];exact cE _) |(rw [List.length_set,eC];exact cE _)];exact aCh) (WS.v (cs:=List.map (Value.int .i64) (dK xs k)) .z (fun _ _ h=>h))) .n ?_
 exact⟨by rw [show k=xs.length by omega],rfl⟩

theorem aLy {w0:World}{S0:Bs}{f:DFs}{ao:List Value} (h0:eS.ro w0 (FF w0 S0) f ao) (ht:bK f=0):
    Calls Tryz.prog 101 #[.agg ao.toArray] w0 (aI w0 S0 (fun r l=>r= .int .i64 (aDd f)∧l= [])):=by
 obtain⟨ay,az,rfl,af,aj⟩:=cQ h0
 obtain⟨aa,ab,rfl,ap,aq,ar,au⟩:=aD af
 obtain⟨ac,ad,rfl,av,aw,ax,ag⟩:=aD aj
 have hI:=kC ht
 have hG:=uJ ht
 have a7:=yB ht
 have a8:=kV hI
 have a0:=kD ht
 refine Y.enter (N:=21) Tryz.func101 rfl rfl (by simp) [(0,.agg #[.slice aa f.inodes.length ab,.slice ac f.data.length ad])] (by simp) (l0:= []) trivial ?_
 refine Y.seq (Y.region ?_)
 refine Y.el rfl (fR (cs:= [.slice aa f.inodes.length ab,.slice ac f.data.length ad]) (n:=2) rfl (.t .z) rfl rfl) ?_
 rintro _ _ ⟨g3,rfl,rfl⟩
 refine Y.ql rfl (aA rfl .c) (Y.nt (Y.seq (Y.seq (Y.region (Y.fa rfl .g1 aP (Y.ld rfl bO .z .z ?_))))))
 refine Y.cl rfl rfl Tryz.func141 rfl rfl (bH (.t .z)) .n (fun _ _ hs tr=>aLt (tr.ctx af) (by assumption)) ?_
 rintro _ _ ⟨rfl,rfl⟩
 refine Y.r .n ?_
 refine Y.ql rfl (aS rfl .c) (Y.nt (Y.block ?_))
 refine Y.ah (γ:=Nat) (fun k=> [(8,.int .i64 (k:Int)),(7,.agg (List.map (Value.int .i64) (dK f.inodes f.inodes.length)).toArray),(1,.pointer (some ⟨g3,0,none⟩))]) (fun k=> [bZ g3 27 2 1 [.slice aa f.inodes.length ab,.slice ac f.data.length ad]]) (fun k=>k≤20∧∀(j:Nat) (b:List UInt8),j<k→f.data[j]? =some b→(qF f)[j]? =some (b.length:Int)) (fun k=>20 - k) 0 ⟨Nat.zero_le _,eR (q:=fun j (b:List UInt8)=>(qF f)[j]? =some (b.length:Int))⟩ (.c .z (.c .g1 (.c .g5 .n))) (fun _ h=>h.sel (.c .z .n)) ?_
 rintro k ⟨hk,hallk⟩
 have hwl:(dK f.inodes f.inodes.length).length=20:=cE _
 refine Y.seq (Y.region (Y.ql rfl (cU rfl (.t .z) .c) (Y.nt (Y.seq ?_))))
 refine Y.u (.t .z) (fun b4=> ?_) (fun b4=> ?_)
 refine Y.skip (Y.g (Y.seq (Y.block (Y.seq (Y.region (Y.mv rfl .g1 ?_))))))
 obtain⟨x5,ak⟩:=aJ (xs:=dK f.inodes f.inodes.length) (j:=k) (by omega)
 refine Y.ql rfl (aCq (j:=k) rfl aI4 hP bR (.t .g3) (.t .g2) rfl ak (by first | rfl | exact List.length_replicate | exact cE _ |(rw [eC];exact cE _) |(rw [List.length_set,eC];exact cE _))) ?_
 refine Y.as rfl .g1 (Y.as rfl .g1 (Y.nt (Y.seq (Y.region (Y.fa rfl .g7 fV (Y.ld rfl kN .z .z (Y.mv rfl .g3 ?_)))))))
 obtain⟨a9,ah,ai⟩:=ag (by omega)
 subst ah
 obtain⟨x7,al⟩:=aJ (xs:=f.data) (j:=k) (by omega)
 obtain⟨a1,ae,am,an⟩:=ai.elem al
 obtain⟨ba,rfl⟩:=lB ae
 obtain⟨bb,bc,rfl,a2,a3,a4,a5⟩:=aD ae
 refine Y.ql rfl (aB (j:=k) rfl lE kL (.t .g1) (.t .z) rfl (by omega)) ?_
 refine Y.ql rfl (aN rfl lR (.t .z) (WS.i am an rfl)) ?_
 refine Y.cl rfl rfl Tryz.func88 rfl rfl (bH (.t .z)) .n (fun _ _ hs tr=>aHy (tr.ctx ae)) ?_
 rintro _ _ ⟨rfl,rfl⟩
 refine Y.r .n ?_
 refine Y.mv rfl .g6 (Y.ql rfl (cC rfl (.t .g1) (.t .z)) (Y.nt ?_))
 refine Y.ad (.t .z) (fun a6=> ?_) (fun a6=> ?_)
 refine Y.seq (Y.region (Y.ql rfl (aA rfl .c) (Y.nt (Y.ret (Y.v (Y.m (Y.m ?_)))))))
 refine Y.v (Y.m ?_)
 refine Y.j (aT rfl .z) .n ?_
 exact⟨by first |(rw [aDu (aEc al ak (by omega))];done) |(rw [zG (tQ (k:=k) (by omega) hallk)];done),rfl⟩
 refine Y.skip (Y.y (Y.g (Y.region ?_)))
 refine Y.ql rfl (bG (c:=((k+1:Nat):Int)) rfl (.t .g13) .c (wr (by omega) (by omega) (by omega))) ?_
 refine Y.er .g14 (Y.mv rfl .z (Y.nil ?_))
 refine Y.ae (k+1) ⟨by omega,aHd hallk al ak (by omega)⟩ (by first | omega |(dsimp only;omega)) (.c .z (.c .g15 (.c .g16 .n))) (fun _ h=>h.sel (.c .z .n))
 refine Y.exit (Y.w (Y.w (Y.ag (Y.g (Y.seq (Y.region (Y.ql rfl (aA rfl .c) (Y.nil ?_))))))))
 refine Y.g (Y.ret ?_)
 refine Y.j (aT rfl .z) .n ?_
 exact⟨by first |(rw [zG (tQ (k:=k) (by omega) hallk)];done),rfl⟩

theorem aL0 {w0:World}{S0:Bs}{f:DFs}{ax:Addr} (h0:gJ eS w0 (FF w0 S0) ax f) (ht:bK f=0):
    Calls Tryz.prog 103 #[.pointer (some ax)] w0 (aI w0 S0 (fun r l=>r= .bool (decide (mF f))∧l= [])):=by
 obtain⟨c4,be,ce,bf⟩:=id h0
 obtain⟨cf,cg,rfl,bg,bh⟩:=cQ ce
 obtain⟨ch,ci,rfl,bs,bt,bu,ay⟩:=aD bg
 obtain⟨cj,ck,rfl,bv,bw,bx,az⟩:=aD bh
 have hI:=kC ht
 have hG:=uJ ht
 have c5:=yB ht
 have c6:=kV hI
 have cm:=kD ht
 refine Y.enter (N:=72) Tryz.func103 rfl rfl (by simp) [(0,.pointer (some ax))] (by simp) (l0:= []) trivial ?_
 refine Y.seq (Y.region (Y.ql rfl (aA rfl .c) (Y.nt (Y.seq (Y.region ?_)))))
 refine Y.el rfl (jH (n:=20) (x0:=(0:Int)) rfl dN fI rfl (fun _ _=>⟨rfl,trivial⟩) .c .c (by omega) (by omega)) ?_
 rintro _ _ rfl
 refine Y.i (WS.a .z) ?_
 rintro⟨cn,co,rfl,cp,cq,cr⟩
 refine Y.as rfl .z (Y.nt (Y.seq (Y.seq (Y.region (Y.ql rfl (aA rfl .c) (Y.nt ?_))))))
 refine Y.block ?_
 refine Y.ah (γ:=Nat×(Option Addr)×Nat) (fun⟨k,ab,ac⟩=> [(4,.int .i64 (k:Int)),(3,.slice ab (dK f.inodes k).length ac),(2,.bool false),(0,.pointer (some ax))]) (fun⟨k,ab,ac⟩=> [aG aY (dK f.inodes k) [.slice ab (dK f.inodes k).length ac]]) (fun⟨k,ab,ac⟩=>k≤f.inodes.length) (fun⟨k,ab,ac⟩=>f.inodes.length - k) (0,cn,co) (Nat.zero_le _) (.c .z (.c .g1 (.c .g3 (.c .g4 .n)))) (fun _ h=>h.sel (.c .z .n)) ?_
 rintro⟨k,ab,ac⟩ hk
 have hwt:(dK f.inodes k).length=20:=cE k
 refine Y.seq (Y.seq (Y.region (Y.mv rfl .z (Y.mv rfl .g4 (Y.nc rfl .z (Y.fa rfl .z aP (Y.le rfl bO .z be bf (Y.ql rfl (bE rfl cI (.t .z)) ?_))))))))
 refine Y.ql rfl (cU rfl (.t .g5) (.t .z)) (Y.nt ?_)
 refine Y.u (.t .z) (fun b5=> ?_) (fun b5=> ?_)
 refine Y.skip (Y.g (Y.seq (Y.block (Y.seq (Y.region (Y.mv rfl .g10 (Y.nc rfl .z (Y.fa rfl .z aP ?_))))))))
 refine Y.le rfl bO .z be bf (Y.mv rfl .g11 ?_)
 obtain⟨cs,a0,a1⟩:=ay (by omega)
 subst a0
 obtain⟨x7,a2⟩:=aJ (xs:=f.inodes) (j:=k) (by first | omega |(simp <;> omega))
 obtain⟨ct,bi,ai,aj⟩:=a1.elem a2
 obtain⟨bz,b0,rfl,a3,a4⟩:=bV bi
 obtain⟨b1,b2,rfl,bj,bk,bm,ak⟩:=aD a3
 obtain⟨b3,b4,rfl,bn,bo,bp,bq⟩:=aD a4
 have c7:=cZ (i:=((k:Nat):Int)) a2 (by omega)
 have c8:=dD (a:=((k:Nat):Int)) a2 (by omega)
 have al:=dI hI _ (List.mem_of_getElem? a2)
 refine Y.ql rfl (aB (j:=k) rfl cI aU (.t .g1) (.t .z) rfl (by first | omega |(simp <;> omega))) ?_
 refine Y.as rfl .z (Y.nt (Y.seq (Y.region (Y.ql rfl (aA rfl .c) (Y.nt (Y.block ?_))))))
 have a5:dK f.inodes k=iE x7 (dK f.inodes k) 0:=rfl
 refine Y.eq .g16 (congrArg (fun z_=>(.slice ab (z_).length ac:Value)) a5) ?_
 refine Y.aj .z (congrArg (fun z_=>(aG aY (z_) [.slice ab (z_).length ac]:Asn)) a5) ?_
 refine Y.ah (γ:=Nat×(Option Addr)×Nat) (fun⟨q,ad,aa⟩=> [(3,.slice ad (iE x7 (dK f.inodes k) q).length aa),(6,.int .i64 (q:Int)),(5,.pointer (some (Addr.add cs (k * 5)))),(4,.int .i64 (k:Int)),(2,.bool false),(0,.pointer (some ax))]) (fun⟨q,ad,aa⟩=> [aG aY (iE x7 (dK f.inodes k) q) [.slice ad (iE x7 (dK f.inodes k) q).length aa]]) (fun⟨q,ad,aa⟩=>q≤x7.blocks.length) (fun⟨q,ad,aa⟩=>x7.blocks.length - q) (0,ab,ac) (Nat.zero_le _) (.c .z (.c .g1 (.c .g2 (.c .g16 (.c (.s16 .g1) (.c (.s16 .g2) .n)))))) (fun _ h=>h.sel (.c .z .n)) ?_
 rintro⟨q,ad,aa⟩ hq
 have hwi:(iE x7 (dK f.inodes k) q).length=20:=(eC q).trans (cE k)
 refine Y.seq (Y.seq (Y.region (Y.mv rfl .g1 (Y.mv rfl .g3 (Y.nc rfl .z (Y.fa rfl .z cS (Y.le rfl eP .z ai aj (Y.ql rfl (bE rfl dN (.t .z)) ?_))))))))
 refine Y.ql rfl (cU rfl (.t .g5) (.t .z)) (Y.nt ?_)
 refine Y.u (.t .z) (fun cu=> ?_) (fun cu=> ?_)
 refine Y.skip (Y.g (Y.seq (Y.block ?_)))
 refine Y.dr .g1 17 gB ?_
 refine Y.sc (qs 0 15++ [(15,false),(16,true),(17,false)]) (by kernel_rfl) ?_
 refine Y.dm rfl rfl .g1 .g7 (Y.dm rfl rfl .g1 .g10 (Y.dn rfl rfl .g1 .z (Y.df rfl rfl .g1 .z cS (Y.de rfl rfl .g1 eP .z ai aj (Y.dm rfl rfl .g1 .g13 ?_)))))
 obtain⟨cv,am,an⟩:=ak (by omega)
 subst am
 obtain⟨a6,ao⟩:=aJ (xs:=x7.blocks) (j:=q) (by first | omega |(simp <;> omega))
 obtain⟨b6,a7,a8,a9⟩:=an.elem ao
 obtain⟨rfl,cw⟩:=a7
 have b7:=(jP al).2 _ (List.mem_of_getElem? ao)
 have p4x14:=(jP al).1
 have b8:=aDl al
 refine Y.dk rfl rfl .g1 (aB (j:=q) rfl dN hP (.t .g1) (.t .z) rfl (by first | omega |(simp <;> omega))) ?_
 refine Y.dk rfl rfl .g1 (aN rfl bR (.t .z) (WS.i a8 a9 rfl)) (Y.dm rfl rfl .g1 (.s16 .g1) (Y.dn rfl rfl .g1 .z (Y.df rfl rfl .g1 .z gH (Y.de rfl rfl .g1 bR .z ai aj (Y.dm rfl rfl .g1 (.s16 .g4) ?_)))))
 refine Y.dk rfl rfl .g1 (pF (c:=((q * 8:Nat):Int)) rfl (.t .z) .c (wr (by omega) (by omega) (by omega))) ?_
 refine Y.dk rfl rfl .g1 (jO (c:=x7.size - ((q * 8:Nat):Int)) rfl (.t .g2) (.t .z) (wr (by omega) (by omega) (by omega))) ?_
 refine Y.call (aC rfl rfl) rfl (by decide) rfl (bF rfl Tryz.func47 rfl rfl (aR .c (.t .z))) .n (fun _ _ hs tr=>aHi _ _) ?_
 rintro _ _ ⟨rfl,rfl⟩
 refine Y.r .n ?_
 have cx:=jC 8 (x7.size - ((q * 8:Nat):Int))
 refine Y.sk .g1 ?_
 refine Y.i (WS.h .z (by first | omega |(simp <;> omega))) ?_
 rintro⟨ae,rfl⟩
 refine Y.dk rfl rfl .g1 (aB (j:=Int.toNat a6) rfl dN hP (.t .g15) (.t .g8) (by omega) (by first | omega |(simp <;> omega))) ?_
 refine Y.add (c:=aG (gV .i64) (eM 8 (x7.size - ((q * 8:Nat):Int))) [.int .i64 (eM 8 (x7.size - ((q * 8:Nat):Int)))]) (fun _ _=>⟨rfl,trivial⟩) ?_
 refine Y.es (aC rfl rfl) rfl (mE (j:=Int.toNat a6) rfl hP (.t .z) (.t .g1) rfl (.c .g1 (.c .z .n)) (by first | omega |(simp <;> omega))) ?_
 have ap:(iE x7 (dK f.inodes k) q).length=(List.set (iE x7 (dK f.inodes k) q) (Int.toNat a6) (eM 8 (x7.size - ((q * 8:Nat):Int)))).length:=(List.length_set ..).symm
 refine Y.eq .g16 (congrArg (fun z_=>(.slice (some ae) z_ aa:Value)) ap) ?_
 refine Y.eq (.s16 .g8) (congrArg (fun z_=>(.slice (some ae) z_ aa:Value)) ap) ?_
 refine Y.aj .z (congrArg (fun z_=>(aG aY (List.set (iE x7 (dK f.inodes k) q) (Int.toNat a6) (eM 8 (x7.size - ((q * 8:Nat):Int)))) [.slice (some ae) z_ aa]:Asn)) ap) ?_
 have aq:List.set (iE x7 (dK f.inodes k) q) (Int.toNat a6) (eM 8 (x7.size - ((q * 8:Nat):Int)))=iE x7 (dK f.inodes k) (q+1):=(aD3 ao)
 refine Y.eq .z (congrArg (fun z_=>(.slice (some ae) (z_).length aa:Value)) aq) ?_
 refine Y.eq .g1 (congrArg (fun z_=>(.slice (some ae) (z_).length aa:Value)) aq) ?_
 refine Y.aj .z (congrArg (fun z_=>(aG aY (z_) [.slice (some ae) (z_).length aa]:Asn)) aq) ?_
 refine Y.sl rfl ?_
 refine Y.aa ?_
 refine Y.ai (by kernel_rfl) ?_
 refine Y.y (Y.g (Y.region (Y.mv rfl (.s16 .g9) ?_)))
 refine Y.ql rfl (bG (c:=((q+1:Nat):Int)) rfl (.t .z) .c (wr (by omega) (by omega) (by omega))) ?_
 refine Y.er (.s16 .g11) (Y.as rfl .z (Y.nil ?_))
 refine Y.ae ((q+1),(some ae),aa) (by omega) (by first | omega |(dsimp only;omega)) (.c .g4 (.c .z (.c (.s16 .g12) (.c (.s16 .g13) (.c (.s16 .g14) (.c (.s16 .g15) .n)))))) (fun _ h=>h.sel (.c .z .n))
 refine Y.exit (Y.w (Y.w (Y.ag (Y.y (Y.g (Y.region (Y.mv rfl .g10 ?_)))))))
 refine Y.ql rfl (bG (c:=((k+1:Nat):Int)) rfl (.t .z) .c (wr (by omega) (by omega) (by omega))) ?_
 refine Y.er .g12 (Y.as rfl .z (Y.nil ?_))
 have ba:iE x7 (dK f.inodes k) q=dK f.inodes (k+1):=(aBc a2 (by omega) (by omega))
 refine Y.eq .g10 (congrArg (fun z_=>(.slice ad (z_).length aa:Value)) ba) ?_
 refine Y.aj .z (congrArg (fun z_=>(aG aY (z_) [.slice ad (z_).length aa]:Asn)) ba) ?_
 refine Y.ae ((k+1),ad,aa) (by omega) (by first | omega |(dsimp only;omega)) (.c .g1 (.c .z (.c .g13 (.c .g14 .n)))) (fun _ h=>h.sel (.c .z .n))
 refine Y.exit (Y.w (Y.w (Y.ag (Y.g (Y.seq (Y.seq (Y.region (Y.ql rfl (aA rfl .c) ?_))))))))
 refine Y.nt (Y.block ?_)
 have bb:dK f.inodes k=qF f:=(by rw [show k=f.inodes.length by omega])
 refine Y.eq .g9 (congrArg (fun z_=>(.slice ab (z_).length ac:Value)) bb) ?_
 refine Y.aj .z (congrArg (fun z_=>(aG aY (z_) [.slice ab (z_).length ac]:Asn)) bb) ?_
 refine Y.ah (γ:=Nat×(Option Addr)×Nat) (fun⟨z,ag,af⟩=> [(3,.slice ag (qF f).length af),(7,.int .i64 (z:Int)),(0,.pointer (some ax))]) (fun⟨z,ag,af⟩=> [aG aY (qF f) [.slice ag (qF f).length af]]) (fun⟨z,ag,af⟩=>z≤f.data.length∧∀(j:Nat) (b:List UInt8),j<z→f.data[j]? =some b→(qF f)[j]? =some (b.length:Int)) (fun⟨z,ag,af⟩=>f.data.length - z) (0,ab,ac) ⟨Nat.zero_le _,eR (q:=fun j (b:List UInt8)=>(qF f)[j]? =some (b.length:Int))⟩ (.c .z (.c .g1 (.c .g11 .n))) (fun _ h=>h.sel (.c .z .n)) ?_
 rintro⟨z,ag,af⟩ ⟨hz,hallz⟩
 have hwl:(qF f).length=20:=cE _
 refine Y.seq (Y.seq (Y.region (Y.mv rfl .g1 (Y.mv rfl .g3 (Y.nc rfl .z (Y.fa rfl .z fV (Y.le rfl kN .z be bf (Y.ql rfl (bE rfl lE (.t .z)) ?_))))))))
 refine Y.ql rfl (cU rfl (.t .g5) (.t .z)) (Y.nt ?_)
 refine Y.u (.t .z) (fun cy=> ?_) (fun cy=> ?_)
 refine Y.skip (Y.g (Y.seq (Y.block (Y.seq ?_))))
 refine Y.dr .z 13 gB ?_
 refine Y.sc (qs 0 13) (by kernel_rfl) ?_
 refine Y.dm rfl rfl .z .g9 (Y.dn rfl rfl .z .z (Y.df rfl rfl .z .z fV (Y.de rfl rfl .z kN .z be bf (Y.dm rfl rfl .z .g12 ?_))))
 obtain⟨cz,ar,au⟩:=az (by omega)
 subst ar
 obtain⟨c9,av⟩:=aJ (xs:=f.data) (j:=z) (by first | omega |(simp <;> omega))
 obtain⟨b9,ah,bc,bd⟩:=au.elem av
 obtain⟨c0,rfl⟩:=lB ah
 obtain⟨c1,c2,rfl,ca,cb,cc,cd⟩:=aD ah
 refine Y.dk rfl rfl .z (aB (j:=z) rfl lE kL (.t .g1) (.t .z) rfl (by first | omega |(simp <;> omega))) ?_
 refine Y.dk rfl rfl .z (aN rfl lR (.t .z) (WS.i bc bd rfl)) (Y.dk rfl rfl .z (bE rfl fO (.t .z)) (Y.dm rfl rfl .z .g15 (Y.dm rfl rfl .z (.s16 .g1) ?_)))
 refine Y.i (WS.h .z (by first | omega |(simp <;> omega))) ?_
 rintro⟨br,rfl⟩
 refine Y.dk rfl rfl .z (aB (j:=z) rfl dN hP (.t .g1) (.t .z) rfl (by first | omega |(simp <;> omega))) ?_
 obtain⟨da,aw⟩:=aJ (xs:=qF f) (j:=z) (by first | omega |(simp <;> omega))
 refine Y.dk rfl rfl .z (aN rfl bR (.t .z) (WS.m .z aw)) (Y.dk rfl rfl .z (cC rfl (.t .g4) (.t .z)) (Y.aa ?_))
 refine Y.ai (by kernel_rfl) ?_
 refine Y.g ?_
 refine Y.ad (.t .z) (fun c3=> ?_) (fun c3=> ?_)
 refine Y.seq (Y.region (Y.ql rfl (aA rfl .c) (Y.nt (Y.ret (Y.v (Y.m (Y.m ?_)))))))
 refine Y.v (Y.m ?_)
 refine Y.j (aT rfl .z) .n ?_
 exact⟨by first |(rw [decide_eq_true (tQ (k:=z) (by omega) hallz)];done) |(rw [decide_eq_false (aEc av aw (by omega))];done),rfl⟩
 refine Y.skip (Y.y (Y.g (Y.region (Y.mv rfl (.s16 .g5) ?_))))
 refine Y.ql rfl (bG (c:=((z+1:Nat):Int)) rfl (.t .z) .c (wr (by omega) (by omega) (by omega))) ?_
 refine Y.er (.s16 .g7) (Y.as rfl .z (Y.nil ?_))
 refine Y.ae ((z+1),(some br),af) ⟨by omega,aHd hallz av aw (by omega)⟩ (by first | omega |(dsimp only;omega)) (.c (.s16 .g7) (.c .z (.c (.s16 .g8) .n))) (fun _ h=>h.sel (.c .z .n))
 refine Y.exit (Y.w (Y.w (Y.ag (Y.g (Y.seq (Y.region (Y.ql rfl (aA rfl .c) (Y.nil ?_))))))))
 refine Y.g (Y.ret ?_)
 refine Y.j (aT rfl .z) .n ?_
 exact⟨by first |(rw [decide_eq_true (tQ (k:=z) (by omega) hallz)];done),rfl⟩

theorem aLi {w0:World}{S0:Bs}{f:DFs}{ag:List Value} (h0:eS.ro w0 (FF w0 S0) f ag):
    Calls Tryz.prog 54 #[.agg ag.toArray] w0 (aI w0 S0 (fun r l=>r= .int .i64 (eO f)∧l= [])):=by
 obtain⟨ap,aq,rfl,aa,ab⟩:=cQ h0
 obtain⟨ac,ad,rfl,ah,ai,aj,ak⟩:=aD aa
 obtain⟨ae,af,rfl,al,am,an,ao⟩:=aD ab
 refine Y.enter (N:=17) Tryz.func54 rfl rfl (by simp) [(0,.agg #[.slice ac f.inodes.length ad,.slice ae f.data.length af])] (by simp) (l0:= []) trivial ?_
 refine Y.seq (Y.region ?_)
 refine Y.el rfl (fR (cs:= [.slice ac f.inodes.length ad,.slice ae f.data.length af]) (n:=2) rfl (.t .z) rfl rfl) ?_
 rintro _ _ ⟨g3,rfl,rfl⟩
 refine Y.ql rfl (aA rfl .c) (Y.nt (Y.seq (Y.seq (Y.region (Y.ql rfl (qW rfl bN (.t .g1) .z aX) ?_)))))
 refine Y.cl rfl rfl Tryz.func50 rfl rfl (bH (.t .z)) .n (fun _ _ hs tr=>aNl (aM f (tr.ctx aa) (tr.ctx ab))) ?_
 rintro _ _ ⟨rfl,rfl⟩
 refine Y.r .n ?_
 refine Y.as rfl .z (Y.nt (Y.seq (Y.region (Y.mv rfl .z (Y.ql rfl (cC rfl (.t .z) .c) (Y.nt ?_))))))
 refine Y.ad (.t .z) (fun b4=> ?_) (fun b4=> ?_)
 refine Y.seq (Y.region (Y.mv rfl .g2 (Y.er .g6 (Y.as rfl .z (Y.nt (Y.ret (Y.m ?_)))))))
 refine Y.j (aT rfl .z) .n ?_
 exact⟨by first |(rw [mO (by assumption)];done) |(rw [mG (by assumption) (by assumption)];done) |(rw [mI (by assumption) (by assumption)];done) |(rw [fP (by assumption) (.inl (by assumption))];done) |(rw [fP (by assumption) (.inr (by assumption))];done) |(rw [kR (by assumption) (by assumption) (by assumption)];done),rfl⟩
 refine Y.skip (Y.g (Y.seq (Y.seq (Y.region (Y.ql rfl (qW rfl bN (.t .g6) .z aX) ?_)))))
 refine Y.cl rfl rfl Tryz.func100 rfl rfl (bH (.t .z)) .n (fun _ _ hs tr=>aKn (aM f (tr.ctx aa) (tr.ctx ab)) (by assumption)) ?_
 rintro _ _ ⟨rfl,rfl⟩
 refine Y.r .n ?_
 refine Y.as rfl .z (Y.nt (Y.seq (Y.region (Y.mv rfl .z (Y.ql rfl (cC rfl (.t .z) .c) (Y.nt ?_))))))
 refine Y.ad (.t .z) (fun b5=> ?_) (fun b5=> ?_)
 refine Y.seq (Y.region (Y.mv rfl .g2 (Y.er .g11 (Y.as rfl .z (Y.nt (Y.ret (Y.m ?_)))))))
 refine Y.j (aT rfl .z) .n ?_
 exact⟨by first |(rw [mO (by assumption)];done) |(rw [mG (by assumption) (by assumption)];done) |(rw [mI (by assumption) (by assumption)];done) |(rw [fP (by assumption) (.inl (by assumption))];done) |(rw [fP (by assumption) (.inr (by assumption))];done) |(rw [kR (by assumption) (by assumption) (by assumption)];done),rfl⟩
 refine Y.skip (Y.g (Y.seq (Y.region (Y.ql rfl (qW rfl bN (.t .g11) .z aX) ?_))))
 refine Y.cl rfl rfl Tryz.func101 rfl rfl (bH (.t .z)) .n (fun _ _ hs tr=>aLy (aM f (tr.ctx aa) (tr.ctx ab)) (by assumption)) ?_
 rintro _ _ ⟨rfl,rfl⟩
 refine Y.r .n ?_
 refine Y.er .g12 (Y.as rfl .z (Y.nt (Y.ret ?_)))
 refine Y.j (aT rfl .z) .n ?_
 exact⟨by first |(rw [mO (by assumption)];done) |(rw [mG (by assumption) (by assumption)];done) |(rw [mI (by assumption) (by assumption)];done) |(rw [fP (by assumption) (.inl (by assumption))];done) |(rw [fP (by assumption) (.inr (by assumption))];done) |(rw [kR (by assumption) (by assumption) (by assumption)];done),rfl⟩

theorem aMm {w0:World}{S0:Bs}{f:DFs}{aa:Addr} (h0:gJ eS w0 (FF w0 S0) aa f):
    Calls Tryz.prog 56 #[.pointer (some aa)] w0 (aI w0 S0 (fun r l=>r= .int .i64 (eO f)∧l= [])):=by
 obtain⟨au,av,al,aw⟩:=id h0
 obtain⟨am,an,rfl,ab,ac⟩:=cQ al
 obtain⟨ao,ap,rfl,ad,ae,af,ag⟩:=aD ab
 obtain⟨aq,ar,rfl,ah,ai,aj,ak⟩:=aD ac
 refine Y.enter (N:=17) Tryz.func56 rfl rfl (by simp) [(0,.pointer (some aa))] (by simp) (l0:= []) trivial ?_
 refine Y.seq (Y.region (Y.ql rfl (aA rfl .c) (Y.nt (Y.seq (Y.seq (Y.region (Y.mv rfl .g1 ?_)))))))
 refine Y.cl rfl rfl Tryz.func52 rfl rfl (bH (.t .z)) .n (fun _ _ hs tr=>aLq (tr.ctxP h0)) ?_
 rintro _ _ ⟨rfl,rfl⟩
 refine Y.r .n ?_
 refine Y.as rfl .z (Y.nt (Y.seq (Y.region (Y.mv rfl .z (Y.ql rfl (cC rfl (.t .z) .c) (Y.nt ?_))))))
 refine Y.ad (.t .z) (fun b3=> ?_) (fun b3=> ?_)
 refine Y.seq (Y.region (Y.mv rfl .g2 (Y.er .g6 (Y.as rfl .z (Y.nt (Y.ret (Y.m ?_)))))))
 refine Y.j (aT rfl .z) .n ?_
 exact⟨by first |(rw [mO (by assumption)];done) |(rw [mG (by assumption) (by assumption)];done) |(rw [mI (by assumption) (by assumption)];done) |(rw [fP (by assumption) (.inl (by assumption))];done) |(rw [fP (by assumption) (.inr (by assumption))];done) |(rw [kR (by assumption) (by assumption) (by assumption)];done),rfl⟩
 refine Y.skip (Y.g (Y.seq (Y.seq (Y.region (Y.mv rfl .g6 ?_)))))
 refine Y.cl rfl rfl Tryz.func102 rfl rfl (bH (.t .z)) .n (fun _ _ hs tr=>aKj (tr.ctxP h0) (by assumption)) ?_
 rintro _ _ ⟨rfl,rfl⟩
 refine Y.r .n ?_
 refine Y.ql rfl (eY rfl (.t .z)) (Y.mv rfl .z ?_)
 refine Y.ao .z (fun g4=> ?_) (fun g4=> ?_)
 refine Y.h rfl rfl .z rfl rfl (by decide) rfl ?_
 refine Y.h rfl rfl .g1 rfl rfl (by decide) rfl ?_
 refine Y.h rfl rfl .g2 rfl rfl (by decide) rfl ?_
 refine Y.ql rfl (bB rfl (.t .g3) .c) (Y.nt ?_)
 refine Y.ap (.t .z) ?_
 refine Y.seq (Y.region (Y.er .g13 (Y.ql rfl (aA rfl .c) (Y.nt (Y.ret (Y.m ?_))))))
 refine Y.j (aT rfl .z) .n ?_
 exact⟨by first |(rw [mO (by assumption)];done) |(rw [mG (by assumption) (by assumption)];done) |(rw [mI (by assumption) (by assumption)];done) |(rw [fP (by assumption) (.inl (by assumption))];done) |(rw [fP (by assumption) (.inr (by assumption))];done) |(rw [kR (by assumption) (by assumption) (by assumption)];done),rfl⟩
 refine Y.qg rfl rfl .z rfl rfl rfl (aS rfl (.t .g10)) ?_
 refine Y.call (dX rfl rfl .g1) rfl (by decide) rfl (bF rfl Tryz.func103 rfl rfl (bH (.t .z))) .n (fun _ _ hs tr=>aL0 (tr.ctxP h0) (by assumption)) ?_
 rintro _ _ ⟨rfl,rfl⟩
 refine Y.r .n ?_
 refine Y.qg rfl rfl .g2 rfl rfl rfl (eY rfl (.t .z)) ?_
 refine Y.ql rfl (aV rfl (.t .g3) (.t .z)) (Y.nt ?_)
 refine Y.ad (.t .z) (fun b5=> ?_) (fun b5=> ?_)
 refine Y.seq (Y.region (Y.er .g13 (Y.ql rfl (aA rfl .c) (Y.nt (Y.ret (Y.m ?_))))))
 refine Y.j (aT rfl .z) .n ?_
 exact⟨by first |(rw [mO (by assumption)];done) |(rw [mG (by assumption) (by assumption)];done) |(rw [mI (by assumption) (by assumption)];done) |(rw [fP (by assumption) (.inl (by assumption))];done) |(rw [fP (by assumption) (.inr (by assumption))];done) |(rw [kR (by assumption) (by assumption) (by assumption)];done),rfl⟩
 refine Y.skip (Y.g (Y.seq (Y.region (Y.er .g13 (Y.ql rfl (aA rfl .c) (Y.nt (Y.ret ?_)))))))
 refine Y.j (aT rfl .z) .n ?_
 exact⟨by first |(rw [mO (by assumption)];done) |(rw [mG (by assumption) (by assumption)];done) |(rw [mI (by assumption) (by assumption)];done) |(rw [fP (by assumption) (.inl (by assumption))];done) |(rw [fP (by assumption) (.inr (by assumption))];done) |(rw [kR (by assumption) (by assumption) (by assumption)];done),rfl⟩

theorem aM6 {w0:World}{S0:Bs}{f:DFs}{cs0:List Value} (h0:eS.ro w0 (FF w0 S0) f cs0):
    Calls Tryz.prog 17 #[.agg cs0.toArray] w0 (aI w0 S0 (fun r l=>r= .int .i64 (eO f)∧l= [])):=by
 obtain⟨u0_0,u0_1,rfl,h0_0,h0_1⟩:=cQ h0
 obtain⟨A0_0,c0_0,rfl,hl0_0,hm0_0,hb0_0,he0_0⟩:=aD h0_0
 obtain⟨A0_1,c0_1,rfl,hl0_1,hm0_1,hb0_1,he0_1⟩:=aD h0_1
 refine Y.enter (N:=5) Tryz.func17 rfl rfl (by simp) [(0,.agg #[.slice A0_0 f.inodes.length c0_0,.slice A0_1 f.data.length c0_1])] (by simp) (l0:= []) trivial ?_
 refine Y.seq (Y.region ?_)
 refine Y.el rfl (fR (cs:= [.slice A0_0 f.inodes.length c0_0,.slice A0_1 f.data.length c0_1]) (n:=2) rfl (.t .z) rfl rfl) ?_
 rintro _ _ ⟨g3,rfl,rfl⟩
 refine Y.ql rfl (aA rfl .c) (Y.nt (Y.seq (Y.region (Y.ql rfl (qW rfl bN (.t .g1) .z aX) ?_))))
 refine Y.cl rfl rfl Tryz.func54 rfl rfl (bH (.t .z)) .n (fun _ _ hs tr=>aLi (aM f (tr.ctx h0_0) (tr.ctx h0_1))) ?_
 rintro _ _ ⟨rfl,rfl⟩
 refine Y.r .n ?_
 refine Y.er .g2 (Y.as rfl .z (Y.nt (Y.ret ?_)))
 refine Y.j (aT rfl .z) .n ?_
 exact⟨rfl,rfl⟩

end Go.Proofs.YtmejbfmhaoilmaaGreat

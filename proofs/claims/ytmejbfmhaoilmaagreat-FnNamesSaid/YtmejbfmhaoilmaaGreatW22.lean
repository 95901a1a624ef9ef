/- What is proved: contracts of functions, one a function. No condition. -/
import Derived.Test.YtmejbfmhaoilmaaGreatBase1
import Derived.Test.YtmejbfmhaoilmaaGreatW20
namespace Go.Proofs.YtmejbfmhaoilmaaGreat
open Go Go.RowKit
set_option linter.unusedVariables false
set_option linter.unusedSimpArgs false
set_option maxHeartbeats 1000000
set_option maxRecDepth 20000
theorem aOb {w0:World}{S0:Bs}{f:DFs}{az:Addr} (h0:gP eU w0 (FF w0 S0) az f) (ht:bX f=0):
    Calls Tryz.prog 53 #[.pointer (some az)] w0 (aJ w0 S0 (fun r l=>l= [aG bY (rC f.inodes 0) [r]])):=by
 obtain⟨c2,a0,cg,a1⟩:=id h0
 obtain⟨ch,ci,rfl,bm,bn⟩:=cY cg
 obtain⟨cj,ck,rfl,bx,bz,b1,a2⟩:=aH bm
 obtain⟨cm,cn,rfl,b2,b3,b4,b5⟩:=aH bn
 have hI:=iY ht
 have hG:=zR ht
 have h0:=aH2 ht
 refine Y.enter (N:=84) Tryz.func53 rfl rfl (by simp) [(0,.pointer (some az))] (by simp) (l0:= []) trivial ?_
 refine Y.seq (Y.region (Y.ql rfl (aA rfl .c) (Y.nt (Y.seq (Y.region (Y.mv rfl .g1 (Y.nc rfl .z ?_)))))))
 refine Y.fa rfl .z aO (Y.le rfl bK .z a0 a1 (Y.ql rfl (bM rfl cE (.t .z)) ?_))
 refine Y.el rfl (nA (n:=f.inodes.length) (x0:=false) rfl zW aMd rfl (fun _ _=>⟨rfl,trivial⟩) (.t .z) (.t .z) (by omega) (by omega)) ?_
 rintro _ _ rfl
 refine Y.h (WS.a .z) ?_
 rintro⟨c3,a3,rfl,co,cp,cq⟩
 refine Y.as rfl .z (Y.nt (Y.seq (Y.region (Y.mv rfl .z ?_))))
 refine Y.h (WS.i .z (by first | omega |(simp <;> omega) |(simp <;> omega))) ?_
 rintro⟨a4,rfl⟩
 refine Y.ql rfl (aC (j:=0) rfl zW aF0 (.t .z) .c rfl (by first | omega |(simp <;> omega) |(simp <;> omega))) ?_
 refine Y.add (c:=aG aCv true [.bool true]) (fun _ _=>⟨rfl,trivial⟩) ?_
 refine Y.es (aD rfl) rfl (oH (j:=0) rfl aF0 (.t .z) .c rfl (.c .g1 (.c .z .n)) (by first | omega |(simp <;> omega) |(simp <;> omega))) ?_
 have bc:(List.replicate f.inodes.length false).length=(List.set (List.replicate f.inodes.length false) 0 true).length:=(List.length_set ..).symm
 refine Y.eq .g1 (congrArg (fun z_=>(.slice (some a4) z_ a3:Value)) bc) ?_
 refine Y.eq .g2 (congrArg (fun z_=>(.slice (some a4) z_ a3:Value)) bc) ?_
 refine Y.eq .g3 (congrArg (fun z_=>(.slice (some a4) z_ a3:Value)) bc) ?_
 refine Y.ak .z (congrArg (fun z_=>(aG zT (List.set (List.replicate f.inodes.length false) 0 true) [.slice (some a4) z_ a3]:Asn)) bc) ?_
 refine Y.nt (Y.seq (Y.seq (Y.region (Y.ql rfl (aA rfl .c) (Y.nt (Y.block ?_))))))
 refine Y.aj (γ:=Nat×(Option Addr)×Nat×(List Bool)) (fun⟨k,ab,ac,b0⟩=> [(4,.int .i64 (k:Int)),(3,.slice ab b0.length ac),(2,.slice none 0 0),(0,.pointer (some az))]) (fun⟨k,ab,ac,b0⟩=> [aG zT b0 [.slice ab b0.length ac]]) (fun⟨k,ab,ac,b0⟩=>k≤f.inodes.length∧Rnd f.inodes k b0) (fun⟨k,ab,ac,b0⟩=>f.inodes.length - k) (0,(some a4),a3,List.set (List.replicate f.inodes.length false) 0 true) ⟨Nat.zero_le _,aH7 (by omega)⟩ (.c .z (.c .g2 (.c .g10 (.c .g11 .n)))) (fun _ h=>h.sel (.c .z .n)) ?_
 rintro⟨k,ab,ac,b0⟩ ⟨hk,hR⟩
 have hbl:=hR.len
 refine Y.seq (Y.seq (Y.region (Y.mv rfl .z (Y.mv rfl .g4 (Y.nc rfl .z (Y.fa rfl .z aO (Y.le rfl bK .z a0 a1 (Y.ql rfl (bM rfl cE (.t .z)) ?_))))))))
 refine Y.ql rfl (dJ rfl (.t .g5) (.t .z)) (Y.nt ?_)
 refine Y.u (.t .z) (fun b8=> ?_) (fun b8=> ?_)
 refine Y.skip (Y.g (Y.seq (Y.block (Y.seq (Y.region (Y.ql rfl (aA rfl .c) (Y.nt ?_)))))))
 refine Y.block ?_
 refine Y.aj (γ:=Nat×(Option Addr)×Nat×(List Bool)) (fun⟨i,af,ag,b⟩=> [(5,.int .i64 (i:Int)),(4,.int .i64 (k:Int)),(3,.slice af b.length ag),(2,.slice none 0 0),(0,.pointer (some az))]) (fun⟨i,af,ag,b⟩=> [aG zT b [.slice af b.length ag]]) (fun⟨i,af,ag,b⟩=>i≤f.inodes.length∧Mid f.inodes b0 i b) (fun⟨i,af,ag,b⟩=>f.inodes.length - i) (0,ab,ac,b0) ⟨Nat.zero_le _,aHr hR⟩ (.c .z (.c .g8 (.c .g9 (.c .g10 (.c .g11 .n))))) (fun _ h=>h.sel (.c .z .n)) ?_
 rintro⟨i,af,ag,b⟩ ⟨hi,hM⟩
 have cr:=hM.len
 refine Y.seq (Y.seq (Y.region (Y.mv rfl .z (Y.mv rfl .g5 (Y.nc rfl .z (Y.fa rfl .z aO (Y.le rfl bK .z a0 a1 (Y.ql rfl (bM rfl cE (.t .z)) ?_))))))))
 refine Y.ql rfl (dJ rfl (.t .g5) (.t .z)) (Y.nt ?_)
 refine Y.u (.t .z) (fun b9=> ?_) (fun b9=> ?_)
 refine Y.skip (Y.g (Y.seq (Y.block (Y.seq (Y.region (Y.ql rfl (aA rfl .c) (Y.nt ?_)))))))
 refine Y.block ?_
 obtain⟨ct,aq,ar⟩:=a2 (by omega)
 subst aq
 obtain⟨bd,ah⟩:=aI (xs:=f.inodes) (j:=i) (by first | omega |(simp <;> omega) |(simp <;> omega))
 obtain⟨b6,a5,ao,ap⟩:=ar.elem ah
 obtain⟨bo,bp,rfl,au,av⟩:=cK a5
 obtain⟨bq,br,rfl,be,bf,bg,bh⟩:=aH au
 obtain⟨bs,bt,rfl,bi,bj,bk,ak⟩:=aH av
 have cu:=cH (i:=((i:Nat):Int)) ah (by omega)
 have cv:=cI (a:=((i:Nat):Int)) ah (by omega)
 have a6:=dT hI _ (List.mem_of_getElem? ah)
 refine Y.aj (γ:=Nat×(Option Addr)×Nat×(List Bool)) (fun⟨q,aj,aa,c⟩=> [(6,.int .i64 (q:Int)),(5,.int .i64 (i:Int)),(4,.int .i64 (k:Int)),(3,.slice aj c.length aa),(2,.slice none 0 0),(0,.pointer (some az))]) (fun⟨q,aj,aa,c⟩=> [aG zT c [.slice aj c.length aa]]) (fun⟨q,aj,aa,c⟩=>q≤bd.ents.length∧Inn f.inodes b0 i bd q c) (fun⟨q,aj,aa,c⟩=>bd.ents.length - q) (0,af,ag,b) ⟨Nat.zero_le _,aHx hM⟩ (.c .z (.c .g8 (.c .g9 (.c .g10 (.c .g11 (.c .g12 .n)))))) (fun _ h=>h.sel (.c .z .n)) ?_
 rintro⟨q,aj,aa,c⟩ ⟨hq,hN⟩
 have cw:=hN.mid.len
 refine Y.seq (Y.seq (Y.region (Y.mv rfl .g3 (Y.mv rfl .g2 ?_))))
 refine Y.h (WS.i .z (by first | omega |(simp <;> omega) |(simp <;> omega))) ?_
 rintro⟨ai,rfl⟩
 refine Y.ql rfl (aC (j:=i) rfl zW aF0 (.t .g1) (.t .z) rfl (by first | omega |(simp <;> omega) |(simp <;> omega))) ?_
 obtain⟨b7,al⟩:=aI (xs:=c) (j:=i) (by first | omega |(simp <;> omega) |(simp <;> omega))
 refine Y.ql rfl (aL rfl aLu (.t .z) (WS.m .z al)) (Y.mv rfl .z ?_)
 refine Y.a2 .z (fun g17=> ?_) (fun g17=> ?_)
 refine Y.qg rfl rfl .z rfl rfl rfl (aV rfl (.t .g5)) ?_
 refine Y.qg rfl rfl .g1 rfl rfl rfl (aV rfl (.t .g11)) ?_
 refine Y.qg rfl rfl .g2 rfl rfl rfl (eB rfl (.t .z)) ?_
 refine Y.qg rfl rfl .g3 rfl rfl rfl (aK rfl (.t .z) (fun _=>aO _ _)) ?_
 refine Y.qg rfl rfl .g4 rfl rfl rfl (aL rfl bK (.t .z) (WS.el a0 a1 rfl)) ?_
 refine Y.qg rfl rfl .g5 rfl rfl rfl (aV rfl (.t .g11)) ?_
 refine Y.qg rfl rfl .g6 rfl rfl rfl (aC (j:=i) rfl cE aU (.t .g1) (.t .z) rfl (by first | omega |(simp <;> omega) |(simp <;> omega))) ?_
 refine Y.qg rfl rfl .g7 rfl rfl rfl (aK rfl (.t .z) (fun _=>bE _ _)) ?_
 refine Y.qg rfl rfl .g8 rfl rfl rfl (aL rfl dP (.t .z) (WS.el ao ap rfl)) ?_
 refine Y.qg rfl rfl .g9 rfl rfl rfl (bM rfl cZ (.t .z)) ?_
 refine Y.qg rfl rfl .g10 rfl rfl rfl (dJ rfl (.t .g9) (.t .z)) ?_
 refine Y.ql rfl (bO rfl (.t .g11) (.t .z)) (Y.nt ?_)
 refine Y.u (.t .z) (fun cx=> ?_) (fun cx=> ?_)
 refine Y.skip (Y.g (Y.seq (Y.block (Y.region (Y.mv rfl (.s16 .g4) (Y.mv rfl (.s16 .g7) (Y.nc rfl .z (Y.fa rfl .z aO ?_))))))))
 refine Y.le rfl bK .z a0 a1 (Y.mv rfl (.s16 .g7) ?_)
 refine Y.ql rfl (aC (j:=i) rfl cE aU (.t .g1) (.t .z) rfl (by first | omega |(simp <;> omega) |(simp <;> omega))) ?_
 refine Y.fa rfl .z bE (Y.le rfl dP .z ao ap (Y.mv rfl (.s16 .g10) ?_))
 obtain⟨cy,aw,ax⟩:=ak (by omega)
 subst aw
 obtain⟨a7,am⟩:=aI (xs:=bd.ents) (j:=q) (by first | omega |(simp <;> omega) |(simp <;> omega))
 obtain⟨ca,a8,a9,ba⟩:=ax.elem am
 obtain⟨rfl,bu⟩:=eR a8
 have cb:=aHw (hG _ _ ah _ _ am)
 have cc:=nN a6 _ _ am
 refine Y.ql rfl (aC (j:=q) rfl cZ dV (.t .g1) (.t .z) rfl (by first | omega |(simp <;> omega) |(simp <;> omega))) ?_
 refine Y.fa rfl .z iX (Y.le rfl cF .z a9 ba ?_)
 refine Y.ql rfl (aC (j:=Int.toNat a7.ino) rfl zW aF0 (.t .g12) (.t .z) (by omega) (by first | omega |(simp <;> omega) |(simp <;> omega))) ?_
 refine Y.add (c:=aG aCv true [.bool true]) (fun _ _=>⟨rfl,trivial⟩) ?_
 refine Y.es (aD rfl) rfl (oH (j:=Int.toNat a7.ino) rfl aF0 (.t .z) .c rfl (.c .g1 (.c .z .n)) (by first | omega |(simp <;> omega) |(simp <;> omega))) ?_
 have an:c.length=(List.set c (Int.toNat a7.ino) true).length:=(List.length_set ..).symm
 refine Y.eq .g13 (congrArg (fun z_=>(.slice (some ai) z_ aa:Value)) an) ?_
 refine Y.eq (.s16 .g14) (congrArg (fun z_=>(.slice (some ai) z_ aa:Value)) an) ?_
 refine Y.eq (.s16 (.s16 .g2)) (congrArg (fun z_=>(.slice (some ai) z_ aa:Value)) an) ?_
 refine Y.ak .z (congrArg (fun z_=>(aG zT (List.set c (Int.toNat a7.ino) true) [.slice (some ai) z_ aa]:Asn)) an) ?_
 refine Y.nil (Y.ac (Y.g (Y.region (Y.mv rfl (.s16 .g16) ?_))))
 refine Y.ql rfl (bQ (c:=((q+1:Nat):Int)) rfl (.t .z) .c (wr (by omega) (by omega) (by omega))) ?_
 refine Y.er (.s16 (.s16 .g2)) (Y.as rfl .z (Y.nil ?_))
 refine Y.ae ((q+1),(some ai),aa,List.set c (Int.toNat a7.ino) true) ⟨by omega,aHv hN ah am ((al).trans (congrArg some (by assumption))) (by omega)⟩ (by first | omega |(dsimp only;omega)) (.c .z (.c (.s16 (.s16 .g3)) (.c (.s16 (.s16 .g4)) (.c .g3 (.c (.s16 (.s16 .g5)) (.c (.s16 (.s16 .g6)) .n)))))) (fun _ h=>h.sel (.c .z .n))
 refine Y.exit (Y.ab (Y.ab (Y.ai (Y.ac (Y.g (Y.region (Y.mv rfl (.s16 .g2) ?_)))))))
 refine Y.ql rfl (bQ (c:=((i+1:Nat):Int)) rfl (.t .z) .c (wr (by omega) (by omega) (by omega))) ?_
 refine Y.er (.s16 .g4) (Y.as rfl .z (Y.nil ?_))
 refine Y.ae ((i+1),(some ai),aa,c) ⟨by omega,aBv hN ah (fun hon=>by first | omega |(exact absurd ((al).symm.trans hon) (by rw [show b7=false by assumption];decide)))⟩ (by first | omega |(dsimp only;omega)) (.c .z (.c (.s16 .g5) (.c (.s16 .g6) (.c (.s16 .g7) (.c (.s16 .g8) .n))))) (fun _ h=>h.sel (.c .z .n))
 refine Y.j rfl rfl .z rfl rfl (by decide) rfl ?_
 refine Y.j rfl rfl .g1 rfl rfl (by decide) rfl ?_
 refine Y.j rfl rfl .g2 rfl rfl (by decide) rfl ?_
 refine Y.j rfl rfl .g3 rfl rfl (by decide) rfl ?_
 refine Y.j rfl rfl .g4 rfl rfl (by decide) rfl ?_
 refine Y.j rfl rfl .g5 rfl rfl (by decide) rfl ?_
 refine Y.j rfl rfl .g6 rfl rfl (by decide) rfl ?_
 refine Y.j rfl rfl .g7 rfl rfl (by decide) rfl ?_
 refine Y.j rfl rfl .g8 rfl rfl (by decide) rfl ?_
 refine Y.j rfl rfl .g9 rfl rfl (by decide) rfl ?_
 refine Y.j rfl rfl .g10 rfl rfl (by decide) rfl ?_
 refine Y.ql rfl (bW rfl (.t .g11) .c) (Y.nt ?_)
 refine Y.ar (.t .z) ?_
 refine Y.exit (Y.ab (Y.ab (Y.ai (Y.ac (Y.g (Y.region (Y.mv rfl (.s16 .g2) ?_)))))))
 refine Y.ql rfl (bQ (c:=((i+1:Nat):Int)) rfl (.t .z) .c (wr (by omega) (by omega) (by omega))) ?_
 refine Y.er (.s16 .g4) (Y.as rfl .z (Y.nil ?_))
 refine Y.ae ((i+1),(some ai),aa,c) ⟨by omega,aBv hN ah (fun hon=>by first | omega |(exact absurd ((al).symm.trans hon) (by rw [show b7=false by assumption];decide)))⟩ (by first | omega |(dsimp only;omega)) (.c .z (.c (.s16 .g5) (.c (.s16 .g6) (.c (.s16 .g7) (.c (.s16 .g8) .n))))) (fun _ h=>h.sel (.c .z .n))
 refine Y.exit (Y.ab (Y.ab (Y.ai (Y.ac (Y.g (Y.region (Y.mv rfl .g8 ?_)))))))
 refine Y.ql rfl (bQ (c:=((k+1:Nat):Int)) rfl (.t .z) .c (wr (by omega) (by omega) (by omega))) ?_
 refine Y.er .g10 (Y.as rfl .z (Y.nil ?_))
 refine Y.ae ((k+1),af,ag,b) ⟨by omega,aHj hR hM (by omega)⟩ (by first | omega |(dsimp only;omega)) (.c .z (.c .g11 (.c .g12 (.c .g13 .n)))) (fun _ h=>h.sel (.c .z .n))
 refine Y.exit (Y.ab (Y.ab (Y.ai (Y.g (Y.seq (Y.region ?_))))))
 refine Y.el rfl (eH rfl eQ (inz iO)) ?_
 rintro _ _ ⟨g24,rfl,rfl⟩
 refine Y.as rfl .z (Y.nt (Y.seq (Y.seq (Y.region (Y.ql rfl (aA rfl .c) (Y.nt ?_))))))
 refine Y.block ?_
 refine Y.add (c:=aG bY ([]:(List Int)) [.slice (some ⟨g24,0,none⟩) 0 0]) (fun w S=>aN w S _) ?_
 refine Y.aj (γ:=Nat×(Option Addr)×Nat) (fun⟨z,ad,ae⟩=> [(8,.int .i64 (z:Int)),(7,.slice ad (dN (onP b0) z).length ae),(3,.slice ab b0.length ac),(2,.slice none 0 0)]) (fun⟨z,ad,ae⟩=> [aG bY (dN (onP b0) z) [.slice ad (dN (onP b0) z).length ae],cM g24 2 1 0 [],aG zT b0 [.slice ab b0.length ac]]) (fun⟨z,ad,ae⟩=>z≤b0.length) (fun⟨z,ad,ae⟩=>b0.length - z) (0,(some ⟨g24,0,none⟩),0) (Nat.zero_le _) (.c .z (.c .g1 (.c .g11 (.c .g12 .n)))) (fun _ h=>h.sel (.c .z (.c .z (.c .z .n)))) ?_
 rintro⟨z,ad,ae⟩ hz
 have hpl:=qM (p:=(onP b0)) (k:=z)
 refine Y.seq (Y.seq (Y.region (Y.mv rfl .z (Y.mv rfl .g3 (Y.ql rfl (bM rfl zW (.t .z)) (Y.ql rfl (dJ rfl (.t .g2) (.t .z)) (Y.nt ?_)))))))
 refine Y.u (.t .z) (fun cz=> ?_) (fun cz=> ?_)
 refine Y.skip (Y.g (Y.seq (Y.block (Y.seq (Y.region (Y.mv rfl .g6 (Y.mv rfl .g5 ?_)))))))
 refine Y.h (WS.i .g2 (by first | omega |(simp <;> omega) |(simp <;> omega))) ?_
 rintro⟨c0,rfl⟩
 refine Y.ql rfl (aC (j:=z) rfl zW aF0 (.t .g1) (.t .z) rfl (by first | omega |(simp <;> omega) |(simp <;> omega))) ?_
 obtain⟨c4,ay⟩:=aI (xs:=b0) (j:=z) (by first | omega |(simp <;> omega) |(simp <;> omega))
 refine Y.ql rfl (aL rfl aLu (.t .z) (WS.m .g2 ay)) (Y.nt ?_)
 refine Y.cond (.t .z) (fun c1=> ?_) (fun c1=> ?_)
 refine Y.region (Y.mv rfl .g9 (Y.mv rfl .g9 ?_))
 refine Y.el rfl (aS (cs:= [.int .i64 (z:Int)]) rfl eQ (inz iO) (by decide) (pv1 (.t .z)) rfl rfl (by decide) rfl rfl) ?_
 rintro _ _ ⟨g30,rfl,rfl⟩
 refine Y.add (c:=aG (iQ .i64) (z:Int) [.int .i64 (z:Int)]) (fun _ _=>⟨rfl,trivial⟩) ?_
 refine Y.el rfl (dU rfl eQ iO rfl (.t .g2) (.t .z) (.c .g2 (.c .g1 (.c .z .n))) (by first | omega |(simp only [List.length_append,List.length_take,List.length_nil,List.length_cons];omega)) (by first | omega |(simp only [List.length_append,List.length_take,List.length_nil,List.length_cons];omega))) ?_
 rintro _ _ rfl
 refine Y.af .z (rF (by rw [aHu ay];assumption)) ?_
 refine Y.h (WS.a .z) ?_
 rintro⟨bv,bw,rfl,cd,ce,cf⟩
 refine Y.er .g13 (Y.as rfl .z (Y.nil (Y.ac (Y.g (Y.region (Y.mv rfl .g13 ?_))))))
 refine Y.ql rfl (bQ (c:=((z+1:Nat):Int)) rfl (.t .z) .c (wr (by omega) (by omega) (by omega))) ?_
 refine Y.er .g15 (Y.as rfl .z (Y.nil ?_))
 refine Y.ae ((z+1),bv,bw) (by omega) (by first | omega |(dsimp only;omega)) (.c .z (.c .g3 (.c .g16 (.c (.s16 .g1) .n)))) (fun _ h=>h.sel (.c .z (.c .z (.c .z .n))))
 refine Y.skip (Y.ac (Y.g (Y.region (Y.mv rfl .g8 ?_))))
 refine Y.ql rfl (bQ (c:=((z+1:Nat):Int)) rfl (.t .z) .c (wr (by omega) (by omega) (by omega))) ?_
 refine Y.er .g10 (Y.as rfl .z (Y.nil ?_))
 have bb:dN (onP b0) z=dN (onP b0) (z+1):=(mB (by rw [aHu ay];assumption))
 refine Y.eq .g11 (congrArg (fun z_=>(.slice ad (z_).length ae:Value)) bb) ?_
 refine Y.ak .z (congrArg (fun z_=>(aG bY (z_) [.slice ad (z_).length ae]:Asn)) bb) ?_
 refine Y.ae ((z+1),ad,ae) (by omega) (by first | omega |(dsimp only;omega)) (.c .g1 (.c .z (.c .g12 (.c .g13 .n)))) (fun _ h=>h.sel (.c .z (.c .z (.c .z .n))))
 refine Y.exit (Y.ab (Y.ab (Y.ai (Y.g (Y.seq (Y.region (Y.mv rfl .g5 (Y.er .g8 ?_))))))))
 refine Y.as rfl .z (Y.nt (Y.ret ?_))
 refine Y.af (x':=rC f.inodes 0) .z (aDu (aJd hR (by omega)) hR.len (by omega)) ?_
 refine Y.i (aY rfl .z) (.c .z .n) ?_
 rfl

end Go.Proofs.YtmejbfmhaoilmaaGreat

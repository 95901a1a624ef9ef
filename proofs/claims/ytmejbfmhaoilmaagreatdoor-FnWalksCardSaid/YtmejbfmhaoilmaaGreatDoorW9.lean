/- What is proved: contracts of functions, one a function. No condition. -/
import Derived.Test.YtmejbfmhaoilmaaGreatDoorBase1
import Derived.Test.YtmejbfmhaoilmaaGreatDoorW3
namespace Go.Proofs.YtmejbfmhaoilmaaGreatDoor
open Go Go.RowKit
set_option linter.unusedVariables false
set_option linter.unusedSimpArgs false
set_option maxHeartbeats 1000000
set_option maxRecDepth 20000
theorem aN5 {w0:World}{S0:Bs}{xs:(List aF)}{v0:Value} (h0:bJ.ro w0 (FF w0 S0) xs [v0]) (a:Int) (hb:fV xs a≤60):
    Calls Tryz.prog 64 #[v0,.int .i64 a] w0 (aI w0 S0 (fun r l=>r= .int .i64 (fV xs a:Int)∧l= [])):=by
 obtain⟨A0,c0,rfl,bb,bc,bd,a6⟩:=aD h0
 refine Y.enter (N:=32) Tryz.func64 rfl rfl (by simp) [(0,.slice A0 xs.length c0),(1,.int .i64 a)] (by simp) (l0:= []) trivial ?_
 refine Y.seq (Y.region (Y.ql rfl (aA rfl .c) (Y.nt (Y.seq (Y.region (Y.ql rfl (aA rfl .c) (Y.nil ?_)))))))
 refine Y.g (Y.seq (Y.seq (Y.region (Y.mv rfl .g2 (Y.ql rfl (bD rfl cQ (.t .z)) (Y.ql rfl (aR rfl .c) (Y.nt ?_)))))))
 refine Y.block ?_
 refine Y.ai (γ:=Nat) (fun k=> [(12,.int .i64 (k:Int)),(11,.int .i64 (xs.length:Int)),(10,.slice A0 xs.length c0),(5,.int .i64 (gJ (gR a) (List.take k xs):Int)),(4,.int .i64 0),(1,.int .i64 a)]) (fun k=> []) (fun k=>k≤xs.length) (fun k=>xs.length - k) 0 (Nat.zero_le _) (.c .z (.c .g1 (.c .g2 (.e .g3 rfl (.c .g4 (.c .g6 .n)))))) (fun _ h=>h) ?_
 rintro k hk
 refine Y.seq (Y.region (Y.ql rfl (dA rfl (.t .z) (.t .g1)) (Y.nt (Y.seq ?_))))
 refine Y.u (.t .z) (fun b2=> ?_) (fun b2=> ?_)
 refine Y.skip (Y.g (Y.seq (Y.block (Y.seq (Y.region ?_)))))
 obtain⟨a7,ag,ah⟩:=a6 (by omega)
 subst ag
 obtain⟨x4,ap⟩:=aK (xs:=xs) (j:=k) (by omega)
 obtain⟨a8,aq,ar,au⟩:=ah.elem ap
 obtain⟨a3,a4,rfl,ai,aj⟩:=bY aq
 obtain⟨ak,al,rfl,av,aw,ax,ay⟩:=aD ai
 obtain⟨aa,ab,rfl,az,a0,a1,ac⟩:=aD aj
 refine Y.ql rfl (aB (j:=k) rfl cQ aT (.t .g3) (.t .g1) rfl (by omega)) ?_
 refine Y.ql rfl (qE rfl fH (.t .z) ar au aT) ?_
 refine Y.el rfl (bB rfl sX rfl rfl) ?_
 rintro _ _ ⟨g8,rfl,rfl⟩
 refine Y.es (aE rfl) rfl (esW rfl (.t .z) (.t .g1) .z aT rfl rfl) ?_
 refine Y.nt (Y.seq (Y.region (Y.fa rfl .z bL (Y.ld rfl dX .z .z (Y.ql rfl (bD rfl dP (.t .z)) (Y.ql rfl (aR rfl .c) (Y.nil ?_)))))))
 refine Y.g (Y.block ?_)
 have g1:=yC (gR a) ap
 have g3:=hb
 unfold fV at g3
 refine Y.ai (γ:=Nat) (fun q=> [(19,.int .i64 (q:Int)),(18,.int .i64 (x4.ents.length:Int)),(17,.slice aa x4.ents.length ab),(12,.int .i64 (k:Int)),(11,.int .i64 (xs.length:Int)),(10,.slice (some a7) xs.length c0),(5,.int .i64 ((gJ (gR a) (List.take k xs)+gJ (oB a) (List.take q x4.ents):Nat):Int)),(4,.int .i64 0),(1,.int .i64 a)]) (fun q=> [bV g8 46 5 1 [.int .i64 x4.kind,.int .i64 x4.links,.int .i64 x4.size,.slice ak x4.blocks.length al,.slice aa x4.ents.length ab]]) (fun q=>q≤x4.ents.length) (fun q=>x4.ents.length - q) 0 (Nat.zero_le _) (.c .z (.c .g1 (.c .g2 (.c .g8 (.c .g9 (.c .g10 (.e .g11 (congrArg (Value.int .i64) (by simp only [List.take_zero,gJ];omega)) (.c .g12 (.c .g13 .n))))))))) (fun _ h=>h.sel (.c .z .n)) ?_
 rintro q hq
 have g2:=uK (oB a) (xs:=x4.ents) (k:=q)
 have g4:gR a x4=gJ (oB a) x4.ents:=rfl
 refine Y.seq (Y.region (Y.ql rfl (dA rfl (.t .z) (.t .g1)) (Y.nt (Y.seq ?_))))
 refine Y.u (.t .z) (fun b9=> ?_) (fun b9=> ?_)
 refine Y.skip (Y.g (Y.seq (Y.block (Y.seq (Y.region ?_)))))
 obtain⟨a9,ad,ae⟩:=ac (by omega)
 subst ad
 obtain⟨be,af⟩:=aK (xs:=x4.ents) (j:=q) (by omega)
 obtain⟨a5,am,an,ao⟩:=ae.elem af
 obtain⟨rfl,a2⟩:=eY am
 refine Y.ql rfl (aB (j:=q) rfl dP fA (.t .g3) (.t .g1) rfl (by omega)) ?_
 refine Y.ql rfl (qE rfl tG (.t .z) an ao fA) ?_
 refine Y.el rfl (bB rfl aD8 rfl rfl) ?_
 rintro _ _ ⟨g13,rfl,rfl⟩
 refine Y.es (aE rfl) rfl (esW rfl (.t .z) (.t .g1) .z fA rfl rfl) ?_
 refine Y.nt (Y.seq (Y.region (Y.fa rfl .z gG (Y.ld rfl bP .z .z (Y.mv rfl .g14 (Y.ql rfl (bU rfl (.t .g1) (.t .z)) (Y.nil ?_)))))))
 refine Y.g ?_
 refine Y.u (.t .z) (fun ba=> ?_) (fun ba=> ?_)
 refine Y.region (Y.mv rfl .g14 ?_)
 refine Y.ql rfl (bN (c:=(((gJ (gR a) (List.take k xs)+gJ (oB a) (List.take q x4.ents))+1:Nat):Int)) rfl (.t .z) .c (wr (by omega) (by omega) (by omega))) ?_
 refine Y.er .g16 (Y.as rfl .z (Y.nil (Y.ab (Y.g (Y.region ?_)))))
 refine Y.ql rfl (bN (c:=((q+1:Nat):Int)) rfl (.t .g11) .c (wr (by omega) (by omega) (by omega))) ?_
 refine Y.er .g12 (Y.mv rfl .z (Y.nil ?_))
 refine Y.ae (q+1) (by omega) (by first | omega |(dsimp only;omega)) (.c .z (.c .g13 (.c .g14 (.c .g15 (.c .g16 (.c (.s16 .g1) (.e .g2 (congrArg (Value.int .i64) (by have hs:=jY (oB a) af;unfold oB at hs ⊢;split at hs <;>(first | omega | contradiction))) (.c (.s16 .g2) (.c (.s16 .g3) .n))))))))) (fun _ h=>h.sel (.c .g1 .n))
 refine Y.skip (Y.ab (Y.g (Y.region ?_)))
 refine Y.ql rfl (bN (c:=((q+1:Nat):Int)) rfl (.t .g8) .c (wr (by omega) (by omega) (by omega))) ?_
 refine Y.er .g9 (Y.mv rfl .z (Y.nil ?_))
 refine Y.ae (q+1) (by omega) (by first | omega |(dsimp only;omega)) (.c .z (.c .g10 (.c .g11 (.c .g12 (.c .g13 (.c .g14 (.e .g15 (congrArg (Value.int .i64) (by have hs:=jY (oB a) af;unfold oB at hs ⊢;split at hs <;>(first | omega | contradiction))) (.c .g16 (.c (.s16 .g1) .n))))))))) (fun _ h=>h.sel (.c .g1 .n))
 refine Y.exit (Y.y (Y.y (Y.ag (Y.ab (Y.g (Y.region ?_))))))
 refine Y.ql rfl (bN (c:=((k+1:Nat):Int)) rfl (.t .g4) .c (wr (by omega) (by omega) (by omega))) ?_
 refine Y.er .g5 (Y.mv rfl .z (Y.nil ?_))
 refine Y.ae (k+1) (by omega) (by first | omega |(dsimp only;omega)) (.c .z (.c .g6 (.c .g7 (.e .g8 (congrArg (Value.int .i64) (by have hs:=jY (gR a) ap;have bf:=pJ (oB a) (xs:=x4.ents) (k:=q) (by omega);unfold gR at hs ⊢;omega)) (.c .g9 (.c .g10 .n)))))) (fun _ h=>h.sel .n)
 refine Y.exit (Y.y (Y.y (Y.ag (Y.g (Y.seq (Y.region (Y.mv rfl .g4 (Y.er .g6 ?_))))))))
 refine Y.as rfl .z (Y.nt (Y.ret ?_))
 refine Y.i (aU rfl .z) .n ?_
 exact⟨by unfold fV;rw [pJ _ (by omega)],rfl⟩

theorem aMc {w0:World}{S0:Bs}{xs:(List aF)}{v0:Value} (h0:bJ.ro w0 (FF w0 S0) xs [v0]) (a:Int) (hb:fV xs a≤60):
    Calls Tryz.prog 72 #[v0,.int .i64 a] w0 (aI w0 S0 (fun r l=>r= .int .i64 (fV xs a:Int)∧l= [])):=by
 obtain⟨A0,c0,rfl,ba,bb,bc,a6⟩:=aD h0
 refine Y.enter (N:=38) Tryz.func72 rfl rfl (by simp) [(0,.slice A0 xs.length c0),(1,.int .i64 a)] (by simp) (l0:= []) trivial ?_
 refine Y.seq (Y.region (Y.ql rfl (aA rfl .c) (Y.nt (Y.seq (Y.region (Y.ql rfl (aA rfl .c) (Y.nil ?_)))))))
 refine Y.g (Y.seq (Y.seq (Y.region (Y.ql rfl (aA rfl .c) (Y.nt (Y.block ?_))))))
 refine Y.ai (γ:=Nat) (fun k=> [(6,.int .i64 (k:Int)),(5,.int .i64 (gJ (gR a) (List.take k xs):Int)),(4,.int .i64 0),(0,.slice A0 xs.length c0),(1,.int .i64 a)]) (fun k=> []) (fun k=>k≤xs.length) (fun k=>xs.length - k) 0 (Nat.zero_le _) (.c .z (.e .g1 rfl (.c .g2 (.c .g3 (.c .g4 .n))))) (fun _ h=>h) ?_
 rintro k hk
 refine Y.seq (Y.seq (Y.region (Y.mv rfl .z (Y.mv rfl .g4 (Y.ql rfl (bD rfl cQ (.t .z)) (Y.ql rfl (dA rfl (.t .g2) (.t .z)) (Y.nt ?_)))))))
 refine Y.u (.t .z) (fun b2=> ?_) (fun b2=> ?_)
 refine Y.skip (Y.g (Y.seq (Y.block (Y.seq (Y.region (Y.ql rfl (aA rfl .c) (Y.nt ?_)))))))
 refine Y.block ?_
 obtain⟨a7,ac,ad⟩:=a6 (by omega)
 subst ac
 obtain⟨x4,an⟩:=aK (xs:=xs) (j:=k) (by omega)
 obtain⟨a8,ao,ae,af⟩:=ad.elem an
 obtain⟨az,a0,rfl,ag,ah⟩:=bY ao
 obtain⟨a1,a2,rfl,ap,aq,ar,au⟩:=aD ag
 obtain⟨a3,a4,rfl,av,aw,ax,aa⟩:=aD ah
 have g1:=yC (gR a) an
 have g3:=hb
 unfold fV at g3
 refine Y.ai (γ:=Nat) (fun q=> [(7,.int .i64 (q:Int)),(6,.int .i64 (k:Int)),(5,.int .i64 ((gJ (gR a) (List.take k xs)+gJ (oB a) (List.take q x4.ents):Nat):Int)),(4,.int .i64 0),(0,.slice (some a7) xs.length c0),(1,.int .i64 a)]) (fun q=> []) (fun q=>q≤x4.ents.length) (fun q=>x4.ents.length - q) 0 (Nat.zero_le _) (.c .z (.c .g5 (.e .g6 (congrArg (Value.int .i64) (by simp only [List.take_zero,gJ];omega)) (.c .g7 (.c .g8 (.c .g9 .n)))))) (fun _ h=>h) ?_
 rintro q hq
 have g2:=uK (oB a) (xs:=x4.ents) (k:=q)
 have g4:gR a x4=gJ (oB a) x4.ents:=rfl
 refine Y.seq (Y.seq (Y.region (Y.mv rfl .z (Y.mv rfl .g5 (Y.mv rfl .g3 ?_)))))
 refine Y.ql rfl (aB (j:=k) rfl cQ aT (.t .g1) (.t .z) rfl (by omega)) ?_
 refine Y.fa rfl .z bL (Y.le rfl dX .z ae af (Y.ql rfl (bD rfl dP (.t .z)) (Y.ql rfl (dA rfl (.t .g6) (.t .z)) (Y.nt ?_))))
 refine Y.u (.t .z) (fun b8=> ?_) (fun b8=> ?_)
 refine Y.skip (Y.g (Y.seq (Y.block (Y.seq (Y.region (Y.mv rfl .g12 (Y.mv rfl .g10 ?_)))))))
 refine Y.ql rfl (aB (j:=k) rfl cQ aT (.t .g1) (.t .z) rfl (by omega)) ?_
 refine Y.fa rfl .z bL (Y.le rfl dX .z ae af (Y.mv rfl .g13 ?_))
 obtain⟨bd,ai,aj⟩:=aa (by omega)
 subst ai
 obtain⟨be,ab⟩:=aK (xs:=x4.ents) (j:=q) (by omega)
 obtain⟨a5,ak,al,am⟩:=aj.elem ab
 obtain⟨rfl,ay⟩:=eY ak
 refine Y.ql rfl (aB (j:=q) rfl dP fA (.t .g1) (.t .z) rfl (by omega)) ?_
 refine Y.fa rfl .z gG (Y.le rfl bP .z al am (Y.mv rfl (.s16 .g6) (Y.ql rfl (bU rfl (.t .g1) (.t .z)) (Y.nt ?_))))
 refine Y.u (.t .z) (fun a9=> ?_) (fun a9=> ?_)
 refine Y.region (Y.mv rfl (.s16 .g5) ?_)
 refine Y.ql rfl (bN (c:=(((gJ (gR a) (List.take k xs)+gJ (oB a) (List.take q x4.ents))+1:Nat):Int)) rfl (.t .z) .c (wr (by omega) (by omega) (by omega))) ?_
 refine Y.er (.s16 .g7) (Y.as rfl .z (Y.nil (Y.ab (Y.g (Y.region (Y.mv rfl (.s16 .g6) ?_))))))
 refine Y.ql rfl (bN (c:=((q+1:Nat):Int)) rfl (.t .z) .c (wr (by omega) (by omega) (by omega))) ?_
 refine Y.er (.s16 .g8) (Y.as rfl .z (Y.nil ?_))
 refine Y.ae (q+1) (by omega) (by first | omega |(dsimp only;omega)) (.c .z (.c (.s16 .g9) (.e .g3 (congrArg (Value.int .i64) (by have hs:=jY (oB a) ab;unfold oB at hs ⊢;split at hs <;>(first | omega | contradiction))) (.c (.s16 .g10) (.c (.s16 .g11) (.c (.s16 .g12) .n)))))) (fun _ h=>h)
 refine Y.skip (Y.ab (Y.g (Y.region (Y.mv rfl (.s16 .g3) ?_))))
 refine Y.ql rfl (bN (c:=((q+1:Nat):Int)) rfl (.t .z) .c (wr (by omega) (by omega) (by omega))) ?_
 refine Y.er (.s16 .g5) (Y.as rfl .z (Y.nil ?_))
 refine Y.ae (q+1) (by omega) (by first | omega |(dsimp only;omega)) (.c .z (.c (.s16 .g6) (.e (.s16 .g7) (congrArg (Value.int .i64) (by have hs:=jY (oB a) ab;unfold oB at hs ⊢;split at hs <;>(first | omega | contradiction))) (.c (.s16 .g8) (.c (.s16 .g9) (.c (.s16 .g10) .n)))))) (fun _ h=>h)
 refine Y.exit (Y.y (Y.y (Y.ag (Y.ab (Y.g (Y.region (Y.mv rfl .g9 ?_)))))))
 refine Y.ql rfl (bN (c:=((k+1:Nat):Int)) rfl (.t .z) .c (wr (by omega) (by omega) (by omega))) ?_
 refine Y.er .g11 (Y.as rfl .z (Y.nil ?_))
 refine Y.ae (k+1) (by omega) (by first | omega |(dsimp only;omega)) (.c .z (.e .g12 (congrArg (Value.int .i64) (by have hs:=jY (gR a) an;have bf:=pJ (oB a) (xs:=x4.ents) (k:=q) (by omega);unfold gR at hs ⊢;omega)) (.c .g13 (.c .g14 (.c .g15 .n))))) (fun _ h=>h)
 refine Y.exit (Y.y (Y.y (Y.ag (Y.g (Y.seq (Y.region (Y.mv rfl .g5 (Y.er .g7 ?_))))))))
 refine Y.as rfl .z (Y.nt (Y.ret ?_))
 refine Y.i (aU rfl .z) .n ?_
 exact⟨by unfold fV;rw [pJ _ (by omega)],rfl⟩

end Go.Proofs.YtmejbfmhaoilmaaGreatDoor

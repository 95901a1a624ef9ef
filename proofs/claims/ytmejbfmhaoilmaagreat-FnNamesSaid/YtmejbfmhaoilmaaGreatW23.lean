/- What is proved: contracts of functions, one a function. No condition. -/
import Derived.Test.YtmejbfmhaoilmaaGreatBase1
import Derived.Test.YtmejbfmhaoilmaaGreatW22
import Derived.Test.YtmejbfmhaoilmaaGreatW9
namespace Go.Proofs.YtmejbfmhaoilmaaGreat
open Go Go.RowKit
set_option linter.unusedVariables false
set_option linter.unusedSimpArgs false
set_option maxHeartbeats 1000000
set_option maxRecDepth 20000
theorem aLo {w0:World}{S0:Bs}{f:DFs}{ak:Addr} (h0:gP eU w0 (FF w0 S0) ak f) (ht:bX f=0):
    Calls Tryz.prog 102 #[.pointer (some ak)] w0 (aJ w0 S0 (fun r l=>r= .bool (decide (mJ f))∧l= [])):=by
 obtain⟨b0,al,bf,am⟩:=id h0
 obtain⟨bg,bh,rfl,ae,an⟩:=cY bf
 obtain⟨bi,bj,rfl,a0,a1,a2,af⟩:=aH ae
 obtain⟨bk,bm,rfl,a3,a4,a5,a6⟩:=aH an
 have hI:=iY ht
 have hG:=zR ht
 have b1:=aH2 ht
 have b2:=pW hI
 have bn:=qN ht
 refine Y.enter (N:=59) Tryz.func102 rfl rfl (by simp) [(0,.pointer (some ak))] (by simp) (l0:= []) trivial ?_
 refine Y.seq (Y.region (Y.ql rfl (aA rfl .c) (Y.nt (Y.seq (Y.region (Y.mv rfl .g1 ?_))))))
 refine Y.cl rfl rfl Tryz.func53 rfl rfl (bT (.t .z)) .n (fun _ _ hs tr=>aOb (tr.ctxP h0) (by assumption)) ?_
 rintro _ _ rfl
 refine Y.m (.c .n) ?_
 refine Y.h (WS.a .z) ?_
 rintro⟨a7,a8,rfl,bo,bp,bq⟩
 refine Y.as rfl .z (Y.nt (Y.seq (Y.seq (Y.region (Y.ql rfl (aA rfl .c) (Y.nt ?_))))))
 refine Y.block ?_
 refine Y.aj (γ:=Nat) (fun k=> [(4,.int .i64 (k:Int)),(3,.slice a7 (rC (f).inodes 0).length a8),(0,.pointer (some ak))]) (fun k=> [aG bY (rC (f).inodes 0) [.slice a7 (rC (f).inodes 0).length a8]]) (fun k=>k≤f.inodes.length∧∀j x,j<k→f.inodes[j]? =some x→rT f j x) (fun k=>f.inodes.length - k) 0 ⟨Nat.zero_le _,eV (q:=fun j x=>rT f j x)⟩ (.c .z (.c .g1 (.c .g5 .n))) (fun _ h=>h.sel (.c .z .n)) ?_
 rintro k ⟨hk,hallk⟩
 refine Y.seq (Y.seq (Y.region (Y.mv rfl .z (Y.mv rfl .g3 (Y.nc rfl .z (Y.fa rfl .z aO (Y.le rfl bK .z al am (Y.ql rfl (bM rfl cE (.t .z)) ?_))))))))
 refine Y.ql rfl (dJ rfl (.t .g5) (.t .z)) (Y.nt ?_)
 refine Y.u (.t .z) (fun b5=> ?_) (fun b5=> ?_)
 refine Y.skip (Y.g (Y.seq (Y.block (Y.seq (Y.region (Y.mv rfl .g9 (Y.nc rfl .z (Y.fa rfl .z aO ?_))))))))
 refine Y.le rfl bK .z al am (Y.mv rfl .g11 ?_)
 obtain⟨b3,ag,ah⟩:=af (by omega)
 subst ag
 obtain⟨x7,ab⟩:=aI (xs:=f.inodes) (j:=k) (by omega)
 obtain⟨br,ao,ac,ad⟩:=ah.elem ab
 obtain⟨a9,ba,rfl,ai,aj⟩:=cK ao
 obtain⟨bb,bc,rfl,ap,aq,ar,au⟩:=aH ai
 obtain⟨bd,be,rfl,av,aw,ax,ay⟩:=aH aj
 have b4:=cH (i:=((k:Nat):Int)) ab (by omega)
 have b6:=cI (a:=((k:Nat):Int)) ab (by omega)
 have az:=dT hI _ (List.mem_of_getElem? ab)
 have bs:=aIy az
 refine Y.ql rfl (aC (j:=k) rfl cE aU (.t .g1) (.t .z) rfl (by omega)) ?_
 refine Y.as rfl .z (Y.nt (Y.seq (Y.region (Y.mv rfl .g16 (Y.nc rfl .z (Y.fa rfl .z aO (Y.le rfl bK .z al am ?_)))))))
 refine Y.mv rfl (.s16 .g2) ?_
 refine Y.cl rfl rfl Tryz.func142 rfl rfl (aX (.t .g1) (.t .z)) .n (fun _ _ hs tr=>aJz (tr.ctx ae) _ (by first | assumption | exact pH (by assumption) _ |(simp only [bH] at *;assumption))) ?_
 rintro _ _ ⟨rfl,rfl⟩
 refine Y.m .n ?_
 refine Y.as rfl .z (Y.nt (Y.seq (Y.region (Y.ql rfl (aA rfl .c) (Y.nt (Y.seq ?_))))))
 refine Y.block (Y.seq (Y.region (Y.mv rfl .g8 (Y.nc rfl .z (Y.fa rfl .z cV (Y.le rfl cF .z ac ad (Y.ql rfl (bZ rfl (.t .z) .c) (Y.as rfl .z ?_))))))))
 refine Y.nt ?_
 refine Y.u (.t .z) (fun bt=> ?_) (fun bt=> ?_)
 refine Y.exit ?_
 refine Y.a5 (by decide) ?_
 refine Y.ab (Y.ai (Y.g (Y.region (Y.mv rfl (.s16 .g12) ?_))))
 refine Y.ql rfl (bQ (c:=((k+1:Nat):Int)) rfl (.t .z) .c (wr (by omega) (by omega) (by omega))) ?_
 refine Y.er (.s16 .g14) (Y.as rfl .z (Y.nil ?_))
 refine Y.ae (k+1) ⟨by omega,eM (q:=fun j x=>rT f j x) hallk ab ⟨fun h1=>by first | omega | contradiction,fun h1 h2=>by first | omega | contradiction,fun h1 h2=>by first | omega | contradiction,fun h1=>by first | assumption | contradiction |(exfalso;omega)⟩⟩ (by first | omega |(dsimp only;omega)) (.c .z (.c (.s16 .g15) (.c (.s16 .g16) .n))) (fun _ h=>h.sel (.c .z .n))
 refine Y.seq (Y.region (Y.mv rfl .g14 (Y.nc rfl .z (Y.fa rfl .z cV (Y.le rfl cF .z ac ad (Y.ql rfl (bZ rfl (.t .z) .c) (Y.as rfl .z (Y.nil ?_))))))))
 refine Y.g ?_
 refine Y.u (.t .z) (fun bu=> ?_) (fun bu=> ?_)
 refine Y.region (Y.mv rfl (.s16 .g4) (Y.nc rfl .z (Y.fa rfl .z gC (Y.le rfl cF .z ac ad (Y.er .g16 (Y.as rfl .z (Y.nil (Y.ac ?_))))))))
 refine Y.g (Y.seq (Y.region (Y.mv rfl (.s16 .g1) (Y.mv rfl .g1 (Y.ql rfl (cU rfl (.t .g1) (.t .z)) (Y.mv rfl .z ?_))))))
 refine Y.ap .z (fun g13=> ?_) (fun g13=> ?_)
 refine Y.j rfl rfl .z rfl rfl (by decide) rfl ?_
 refine Y.j rfl rfl .g1 rfl rfl (by decide) rfl ?_
 refine Y.j rfl rfl .g2 rfl rfl (by decide) rfl ?_
 refine Y.j rfl rfl .g3 rfl rfl (by decide) rfl ?_
 refine Y.ql rfl (bO rfl (.t .g4) .c) (Y.nt ?_)
 refine Y.ao (.t .z) ?_
 refine Y.seq (Y.region (Y.ql rfl (aA rfl .c) (Y.nt (Y.ret (Y.y (Y.r (Y.r ?_)))))))
 refine Y.y (Y.r ?_)
 refine Y.i (aY rfl .z) .n ?_
 exact⟨by first |(rw [decide_eq_true (mP (k:=k) (by omega) hallk)];done) |(rw [decide_eq_false (fun hl=>by have aa:=hl k _ ab;first |(have e:=aa.file (by omega);omega) |(have e:=aa.root (by omega) (by omega);omega) |(have e:=aa.dir (by omega) (by omega);omega) | exact absurd (aa.way (by omega)) (by assumption))];done),rfl⟩
 refine Y.qg rfl rfl .z rfl rfl rfl (aV rfl (.t (.s16 (.s16 .g11)))) ?_
 refine Y.qg rfl rfl .g1 rfl rfl rfl (aV rfl (.t (.s16 (.s16 .g11)))) ?_
 refine Y.call (fU rfl rfl .g2) rfl (by decide) rfl (bS rfl Tryz.func143 rfl rfl (aX (.t .g1) (.t .z))) .n (fun _ _ hs tr=>aDx (tr.own .z) _) ?_
 rintro _ _ ⟨rfl,rfl⟩
 refine Y.m .n ?_
 refine Y.qg rfl rfl .g3 rfl rfl rfl (fN rfl (.t .z)) ?_
 refine Y.ql rfl (bW rfl (.t .g4) (.t .z)) (Y.nt ?_)
 refine Y.ad (.t .z) (fun bv=> ?_) (fun bv=> ?_)
 refine Y.seq (Y.region (Y.ql rfl (aA rfl .c) (Y.nt (Y.ret (Y.y (Y.r (Y.r ?_)))))))
 refine Y.y (Y.r ?_)
 refine Y.i (aY rfl .z) .n ?_
 exact⟨by first |(rw [decide_eq_true (mP (k:=k) (by omega) hallk)];done) |(rw [decide_eq_false (fun hl=>by have aa:=hl k _ ab;first |(have e:=aa.file (by omega);omega) |(have e:=aa.root (by omega) (by omega);omega) |(have e:=aa.dir (by omega) (by omega);omega) | exact absurd (aa.way (by omega)) (by assumption))];done),rfl⟩
 refine Y.skip (Y.ac (Y.g (Y.region (Y.mv rfl (.s16 (.s16 .g15)) ?_))))
 refine Y.ql rfl (bQ (c:=((k+1:Nat):Int)) rfl (.t .z) .c (wr (by omega) (by omega) (by omega))) ?_
 refine Y.er (.s16 (.s16 (.s16 .g1))) (Y.as rfl .z (Y.nil ?_))
 refine Y.ae (k+1) ⟨by omega,eM (q:=fun j x=>rT f j x) hallk ab ⟨fun h1=>by first | omega | contradiction,fun h1 h2=>by first | omega | contradiction,fun h1 h2=>by first | omega | contradiction,fun h1=>by first | assumption | contradiction |(exfalso;omega)⟩⟩ (by first | omega |(dsimp only;omega)) (.c .z (.c (.s16 (.s16 (.s16 .g2))) (.c (.s16 (.s16 (.s16 .g3))) .n))) (fun _ h=>h.sel (.c .z .n))
 refine Y.seq (Y.region (Y.mv rfl (.s16 (.s16 .g2)) (Y.ql rfl (bZ rfl (.t .z) .c) (Y.as rfl .z (Y.nt ?_)))))
 refine Y.u (.t .z) (fun bw=> ?_) (fun bw=> ?_)
 refine Y.region (Y.er .g15 (Y.ql rfl (aA rfl .c) (Y.nil (Y.ac (Y.g (Y.seq (Y.region (Y.mv rfl .g16 ?_))))))))
 refine Y.mv rfl .g1 (Y.ql rfl (cU rfl (.t .g1) (.t .z)) (Y.mv rfl .z ?_))
 refine Y.ap .z (fun g16=> ?_) (fun g16=> ?_)
 refine Y.j rfl rfl .z rfl rfl (by decide) rfl ?_
 refine Y.j rfl rfl .g1 rfl rfl (by decide) rfl ?_
 refine Y.j rfl rfl .g2 rfl rfl (by decide) rfl ?_
 refine Y.j rfl rfl .g3 rfl rfl (by decide) rfl ?_
 refine Y.ql rfl (bO rfl (.t .g4) .c) (Y.nt ?_)
 refine Y.ao (.t .z) ?_
 refine Y.seq (Y.region (Y.ql rfl (aA rfl .c) (Y.nt (Y.ret (Y.y (Y.r (Y.r ?_)))))))
 refine Y.y (Y.r ?_)
 refine Y.i (aY rfl .z) .n ?_
 exact⟨by first |(rw [decide_eq_true (mP (k:=k) (by omega) hallk)];done) |(rw [decide_eq_false (fun hl=>by have aa:=hl k _ ab;first |(have e:=aa.file (by omega);omega) |(have e:=aa.root (by omega) (by omega);omega) |(have e:=aa.dir (by omega) (by omega);omega) | exact absurd (aa.way (by omega)) (by assumption))];done),rfl⟩
 refine Y.qg rfl rfl .z rfl rfl rfl (aV rfl (.t (.s16 (.s16 .g10)))) ?_
 refine Y.qg rfl rfl .g1 rfl rfl rfl (aV rfl (.t (.s16 (.s16 .g10)))) ?_
 refine Y.call (fU rfl rfl .g2) rfl (by decide) rfl (bS rfl Tryz.func143 rfl rfl (aX (.t .g1) (.t .z))) .n (fun _ _ hs tr=>aDx (tr.own .z) _) ?_
 rintro _ _ ⟨rfl,rfl⟩
 refine Y.m .n ?_
 refine Y.qg rfl rfl .g3 rfl rfl rfl (fN rfl (.t .z)) ?_
 refine Y.ql rfl (bW rfl (.t .g4) (.t .z)) (Y.nt ?_)
 refine Y.ad (.t .z) (fun bx=> ?_) (fun bx=> ?_)
 refine Y.seq (Y.region (Y.ql rfl (aA rfl .c) (Y.nt (Y.ret (Y.y (Y.r (Y.r ?_)))))))
 refine Y.y (Y.r ?_)
 refine Y.i (aY rfl .z) .n ?_
 exact⟨by first |(rw [decide_eq_true (mP (k:=k) (by omega) hallk)];done) |(rw [decide_eq_false (fun hl=>by have aa:=hl k _ ab;first |(have e:=aa.file (by omega);omega) |(have e:=aa.root (by omega) (by omega);omega) |(have e:=aa.dir (by omega) (by omega);omega) | exact absurd (aa.way (by omega)) (by assumption))];done),rfl⟩
 refine Y.skip (Y.ac (Y.g (Y.region (Y.mv rfl (.s16 (.s16 .g14)) ?_))))
 refine Y.ql rfl (bQ (c:=((k+1:Nat):Int)) rfl (.t .z) .c (wr (by omega) (by omega) (by omega))) ?_
 refine Y.er (.s16 (.s16 .g16)) (Y.as rfl .z (Y.nil ?_))
 refine Y.ae (k+1) ⟨by omega,eM (q:=fun j x=>rT f j x) hallk ab ⟨fun h1=>by first | omega | contradiction,fun h1 h2=>by first | omega | contradiction,fun h1 h2=>by first | omega | contradiction,fun h1=>by first | assumption | contradiction |(exfalso;omega)⟩⟩ (by first | omega |(dsimp only;omega)) (.c .z (.c (.s16 (.s16 (.s16 .g1))) (.c (.s16 (.s16 (.s16 .g2))) .n))) (fun _ h=>h.sel (.c .z .n))
 refine Y.skip (Y.ac (Y.g (Y.seq (Y.region (Y.mv rfl .g16 (Y.mv rfl .g16 (Y.ql rfl (cU rfl (.t .g1) (.t .z)) (Y.mv rfl .z ?_))))))))
 refine Y.ap .z (fun g18=> ?_) (fun g18=> ?_)
 refine Y.j rfl rfl .z rfl rfl (by decide) rfl ?_
 refine Y.j rfl rfl .g1 rfl rfl (by decide) rfl ?_
 refine Y.j rfl rfl .g2 rfl rfl (by decide) rfl ?_
 refine Y.j rfl rfl .g3 rfl rfl (by decide) rfl ?_
 refine Y.ql rfl (bO rfl (.t .g4) .c) (Y.nt ?_)
 refine Y.ao (.t .z) ?_
 refine Y.seq (Y.region (Y.ql rfl (aA rfl .c) (Y.nt (Y.ret (Y.y (Y.r (Y.r ?_)))))))
 refine Y.y (Y.r ?_)
 refine Y.i (aY rfl .z) .n ?_
 exact⟨by first |(rw [decide_eq_true (mP (k:=k) (by omega) hallk)];done) |(rw [decide_eq_false (fun hl=>by have aa:=hl k _ ab;first |(have e:=aa.file (by omega);omega) |(have e:=aa.root (by omega) (by omega);omega) |(have e:=aa.dir (by omega) (by omega);omega) | exact absurd (aa.way (by omega)) (by assumption))];done),rfl⟩
 refine Y.qg rfl rfl .z rfl rfl rfl (aV rfl (.t (.s16 (.s16 .g10)))) ?_
 refine Y.qg rfl rfl .g1 rfl rfl rfl (aV rfl (.t (.s16 (.s16 .g10)))) ?_
 refine Y.call (fU rfl rfl .g2) rfl (by decide) rfl (bS rfl Tryz.func143 rfl rfl (aX (.t .g1) (.t .z))) .n (fun _ _ hs tr=>aDx (tr.own .z) _) ?_
 rintro _ _ ⟨rfl,rfl⟩
 refine Y.m .n ?_
 refine Y.qg rfl rfl .g3 rfl rfl rfl (fN rfl (.t .z)) ?_
 refine Y.ql rfl (bW rfl (.t .g4) (.t .z)) (Y.nt ?_)
 refine Y.ad (.t .z) (fun bz=> ?_) (fun bz=> ?_)
 refine Y.seq (Y.region (Y.ql rfl (aA rfl .c) (Y.nt (Y.ret (Y.y (Y.r (Y.r ?_)))))))
 refine Y.y (Y.r ?_)
 refine Y.i (aY rfl .z) .n ?_
 exact⟨by first |(rw [decide_eq_true (mP (k:=k) (by omega) hallk)];done) |(rw [decide_eq_false (fun hl=>by have aa:=hl k _ ab;first |(have e:=aa.file (by omega);omega) |(have e:=aa.root (by omega) (by omega);omega) |(have e:=aa.dir (by omega) (by omega);omega) | exact absurd (aa.way (by omega)) (by assumption))];done),rfl⟩
 refine Y.skip (Y.ac (Y.g (Y.region (Y.mv rfl (.s16 (.s16 .g14)) ?_))))
 refine Y.ql rfl (bQ (c:=((k+1:Nat):Int)) rfl (.t .z) .c (wr (by omega) (by omega) (by omega))) ?_
 refine Y.er (.s16 (.s16 .g16)) (Y.as rfl .z (Y.nil ?_))
 refine Y.ae (k+1) ⟨by omega,eM (q:=fun j x=>rT f j x) hallk ab ⟨fun h1=>by first | omega | contradiction,fun h1 h2=>by first | omega | contradiction,fun h1 h2=>by first | omega | contradiction,fun h1=>by first | assumption | contradiction |(exfalso;omega)⟩⟩ (by first | omega |(dsimp only;omega)) (.c .z (.c (.s16 (.s16 (.s16 .g1))) (.c (.s16 (.s16 (.s16 .g2))) .n))) (fun _ h=>h.sel (.c .z .n))
 refine Y.exit (Y.ab (Y.ab (Y.ai (Y.g (Y.seq (Y.region (Y.ql rfl (aA rfl .c) (Y.nil ?_))))))))
 refine Y.g (Y.ret ?_)
 refine Y.i (aY rfl .z) .n ?_
 exact⟨by first |(rw [decide_eq_true (mP (k:=k) (by omega) hallk)];done),rfl⟩

end Go.Proofs.YtmejbfmhaoilmaaGreat

/- What is proved: contracts of functions, one a function. No condition. -/
import Derived.Test.YtmejbfmhaoilmaaGreatBase1
import Derived.Test.YtmejbfmhaoilmaaGreatW22
import Derived.Test.YtmejbfmhaoilmaaGreatW9
namespace Go.Proofs.YtmejbfmhaoilmaaGreat
open Go Go.RowKit
set_option linter.unusedVariables false
set_option linter.unusedSimpArgs false
set_option maxHeartbeats 1000000
set_option maxRecDepth 20000
theorem aKn {w0:World}{S0:Bs}{f:DFs}{a1:List Value} (h0:eS.ro w0 (FF w0 S0) f a1) (ht:bK f=0):
    Calls Tryz.prog 100 #[.agg a1.toArray] w0 (aI w0 S0 (fun r l=>r= .int .i64 (tY f)∧l= [])):=by
 obtain⟨bh,bi,rfl,ae,am⟩:=cQ h0
 obtain⟨ac,ad,rfl,a2,a3,a4,ah⟩:=aD ae
 obtain⟨af,ag,rfl,a5,a6,a7,a8⟩:=aD am
 have hI:=kC ht
 have hG:=uJ ht
 have b4:=yB ht
 have b5:=kV hI
 have bj:=kD ht
 refine Y.enter (N:=66) Tryz.func100 rfl rfl (by simp) [(0,.agg #[.slice ac f.inodes.length ad,.slice af f.data.length ag])] (by simp) (l0:= []) trivial ?_
 refine Y.seq (Y.region ?_)
 refine Y.el rfl (fR (cs:= [.slice ac f.inodes.length ad,.slice af f.data.length ag]) (n:=2) rfl (.t .z) rfl rfl) ?_
 rintro _ _ ⟨g3,rfl,rfl⟩
 refine Y.ql rfl (aA rfl .c) (Y.nt (Y.seq (Y.region (Y.fa rfl .g1 aP (Y.ld rfl bO .z .z ?_)))))
 refine Y.cl rfl rfl Tryz.func51 rfl rfl (aR (.t .z) .c) .n (fun _ _ hs tr=>aM4 (tr.ctx ae) _ (kC (by assumption)) (uJ (by assumption)) (by constructor <;> first | omega |(have:=yB (by assumption);omega))) ?_
 rintro _ _ rfl
 refine Y.r (.c .n) ?_
 refine Y.i (WS.a .z) ?_
 rintro⟨a9,ba,rfl,bk,bm,bn⟩
 refine Y.as rfl .z (Y.nt (Y.seq (Y.seq (Y.region (Y.fa rfl .g5 aP (Y.ld rfl bO .z .g1 (Y.ql rfl (bE rfl cI (.t .z)) ?_)))))))
 refine Y.ql rfl (aS rfl .c) (Y.nt (Y.block ?_))
 refine Y.ah (γ:=Nat) (fun k=> [(14,.int .i64 (k:Int)),(13,.int .i64 (f.inodes.length:Int)),(12,.slice ac f.inodes.length ad),(3,.slice a9 (lW f.inodes (Int.toNat 0)).length ba),(1,.pointer (some ⟨g3,0,none⟩))]) (fun k=> [aG aY (lW f.inodes (Int.toNat 0)) [.slice a9 (lW f.inodes (Int.toNat 0)).length ba],bZ g3 27 2 1 [.slice ac f.inodes.length ad,.slice af f.data.length ag]]) (fun k=>k≤f.inodes.length∧∀j x,j<k→f.inodes[j]? =some x→kZ f j x) (fun k=>f.inodes.length - k) 0 ⟨Nat.zero_le _,eR (q:=fun j x=>kZ f j x)⟩ (.c .z (.c .g1 (.c .g2 (.c .g4 (.c .g9 .n))))) (fun _ h=>h.sel (.c .z (.c .z .n))) ?_
 rintro k ⟨hk,hallk⟩
 refine Y.seq (Y.region (Y.ql rfl (cU rfl (.t .z) (.t .g1)) (Y.nt (Y.seq ?_))))
 refine Y.u (.t .z) (fun b6=> ?_) (fun b6=> ?_)
 refine Y.skip (Y.g (Y.seq (Y.block (Y.seq (Y.region (Y.mv rfl .g1 ?_))))))
 obtain⟨b7,ai,aj⟩:=ah (by omega)
 subst ai
 obtain⟨x8,ab⟩:=aJ (xs:=f.inodes) (j:=k) (by omega)
 obtain⟨bo,an,ao,ap⟩:=aj.elem ab
 obtain⟨bb,bc,rfl,ak,al⟩:=bV an
 obtain⟨bd,be,rfl,aq,ar,au,av⟩:=aD ak
 obtain⟨bf,bg,rfl,aw,ax,ay,az⟩:=aD al
 have b8:=cZ (i:=((k:Nat):Int)) ab (by omega)
 have b9:=dD (a:=((k:Nat):Int)) ab (by omega)
 have a0:=dI hI _ (List.mem_of_getElem? ab)
 have bp:=zT a0
 refine Y.ql rfl (aB (j:=k) rfl cI aU (.t .g4) (.t .g2) rfl (by omega)) ?_
 refine Y.ql rfl (qE rfl fA (.t .z) ao ap aU) ?_
 refine Y.el rfl (bD rfl qH rfl rfl) ?_
 rintro _ _ ⟨g12,rfl,rfl⟩
 refine Y.as rfl .g3 ?_
 refine Y.es (aE rfl) rfl (esW rfl (.t .g1) (.t .g2) .z aU rfl rfl) ?_
 refine Y.nt (Y.seq (Y.region (Y.mv rfl .z (Y.as rfl .z (Y.nt (Y.seq ?_))))))
 refine Y.region (Y.fa rfl .g12 aP (Y.ld rfl bO .z .g2 (Y.mv rfl .g2 ?_)))
 refine Y.cl rfl rfl Tryz.func86 rfl rfl (aR (.t .g1) (.t .z)) .n (fun _ _ hs tr=>aM3 (tr.ctx ae) _ (by first | assumption | exact wY (by assumption) _ |(simp only [dH] at *;assumption))) ?_
 rintro _ _ ⟨rfl,rfl⟩
 refine Y.r .n ?_
 refine Y.as rfl .z (Y.nt (Y.block (Y.seq (Y.seq (Y.region (Y.fa rfl .g8 bW (Y.ld rfl bR .z .z ?_)))))))
 refine Y.ql rfl (bP rfl (.t .z) .c) (Y.mv rfl .z ?_)
 refine Y.ak .z (fun g13=> ?_) (fun g13=> ?_)
 refine Y.qg rfl rfl .z rfl rfl rfl (aL rfl (.t .g12) (fun _=>iR _ _)) ?_
 refine Y.qg rfl rfl .g1 rfl rfl rfl (aN rfl bR (.t .z) (WS.g .z rfl)) ?_
 refine Y.qg rfl rfl .g2 rfl rfl rfl (aS rfl (.t .g6)) ?_
 refine Y.qg rfl rfl .g3 rfl rfl rfl (cC rfl (.t .g1) (.t .z)) ?_
 refine Y.ql rfl (bB rfl (.t .g4) (.t .z)) (Y.as rfl .z (Y.nt ?_))
 refine Y.ad (.t .z) (fun bq=> ?_) (fun bq=> ?_)
 refine Y.skip (Y.g ?_)
 refine Y.ad (.t .z) (fun br=> ?_) (fun br=> ?_)
 refine Y.seq (Y.region (Y.ql rfl (aA rfl .c) (Y.nt (Y.ret (Y.v (Y.v (Y.m ?_)))))))
 refine Y.m (Y.v (Y.m ?_))
 refine Y.j (aT rfl .z) .n ?_
 exact⟨by first |(rw [kI (fun hl=>by have aa:=hl k _ ab;first |(have e:=aa.file (by omega);omega) |(have e:=aa.root (by omega) (by omega);omega) |(have e:=aa.dir (by omega) (by omega);omega) | exact absurd (aa.way (by omega)) (by assumption))];done) |(rw [kM (fZ (k:=k) (by omega) hallk)];done),rfl⟩
 exfalso;first | omega | contradiction
 refine Y.seq (Y.region (Y.fa rfl (.s16 .g2) bW (Y.ld rfl bR .z .z (Y.ql rfl (bP rfl (.t .z) .c) (Y.mv rfl .z ?_)))))
 refine Y.ak .z (fun g16=> ?_) (fun g16=> ?_)
 exfalso;first | omega | contradiction
 refine Y.h rfl rfl .z rfl rfl (by decide) rfl ?_
 refine Y.h rfl rfl .g1 rfl rfl (by decide) rfl ?_
 refine Y.ql rfl (aV rfl (.t .g2) .c) (Y.mv rfl .z ?_)
 refine Y.h rfl rfl .z rfl rfl (by decide) rfl ?_
 refine Y.h rfl rfl .g1 rfl rfl (by decide) rfl ?_
 refine Y.ql rfl (aV rfl (.t .g2) .c) (Y.er .g11 (Y.as rfl .z (Y.nt ?_)))
 refine Y.an (.t .z) ?_
 refine Y.seq (Y.region (Y.fa rfl (.s16 .g13) bW (Y.ld rfl bR .z .z (Y.ql rfl (bP rfl (.t .z) .c) (Y.mv rfl .z ?_)))))
 refine Y.ak .z (fun g17=> ?_) (fun g17=> ?_)
 exfalso;first | omega | contradiction
 refine Y.h rfl rfl .z rfl rfl (by decide) rfl ?_
 refine Y.h rfl rfl .g1 rfl rfl (by decide) rfl ?_
 refine Y.ql rfl (aV rfl (.t .g2) .c) (Y.mv rfl .z ?_)
 refine Y.h rfl rfl .z rfl rfl (by decide) rfl ?_
 refine Y.h rfl rfl .g1 rfl rfl (by decide) rfl ?_
 refine Y.ql rfl (aV rfl (.t .g2) .c) (Y.er .g11 (Y.as rfl .z (Y.nt ?_)))
 refine Y.an (.t .z) ?_
 refine Y.region (Y.fa rfl (.s16 (.s16 .g8)) bW (Y.ld rfl bR .z .z (Y.ql rfl (cC rfl (.t .z) .c) (Y.mv rfl .z ?_))))
 refine Y.ao .z (fun g18=> ?_) (fun g18=> ?_)
 refine Y.qg rfl rfl .z rfl rfl rfl (aS rfl (.t (.s16 (.s16 (.s16 .g4))))) ?_
 refine Y.qg rfl rfl .g1 rfl rfl rfl (aS rfl (.t (.s16 (.s16 .g10)))) ?_
 refine Y.call (dX rfl rfl .g2) rfl (by decide) rfl (bF rfl Tryz.func140 rfl rfl (aR (.t .g1) (.t .z))) .n (fun _ _ hs tr=>uI (tr.own .g1) _) ?_
 rintro _ _ ⟨rfl,rfl⟩
 refine Y.r .n ?_
 refine Y.qg rfl rfl .g3 rfl rfl rfl (eY rfl (.t .z)) ?_
 refine Y.ql rfl (bB rfl (.t .g4) (.t .z)) (Y.er .g9 (Y.as rfl .z (Y.nt ?_)))
 refine Y.ad (.t .z) (fun bs=> ?_) (fun bs=> ?_)
 refine Y.seq (Y.region (Y.ql rfl (aA rfl .c) (Y.nt (Y.ret (Y.v (Y.v (Y.m ?_)))))))
 refine Y.m (Y.v (Y.m ?_))
 refine Y.j (aT rfl .z) .n ?_
 exact⟨by first |(rw [kI (fun hl=>by have aa:=hl k _ ab;first |(have e:=aa.file (by omega);omega) |(have e:=aa.root (by omega) (by omega);omega) |(have e:=aa.dir (by omega) (by omega);omega) | exact absurd (aa.way (by omega)) (by assumption))];done) |(rw [kM (fZ (k:=k) (by omega) hallk)];done),rfl⟩
 refine Y.skip (Y.y (Y.y (Y.g (Y.region ?_))))
 refine Y.ql rfl (bG (c:=((k+1:Nat):Int)) rfl (.t (.s16 (.s16 (.s16 .g6)))) .c (wr (by omega) (by omega) (by omega))) ?_
 refine Y.er (.s16 (.s16 (.s16 .g7))) (Y.mv rfl .z (Y.nil ?_))
 refine Y.ae (k+1) ⟨by omega,dY (q:=fun j x=>kZ f j x) hallk ab ⟨fun h1=>by first | omega | contradiction,fun h1 h2=>by first | omega | contradiction,fun h1 h2=>by first | omega | contradiction,fun h1=>by first | assumption | contradiction |(exfalso;omega)⟩⟩ (by first | omega |(dsimp only;omega)) (.c .z (.c (.s16 (.s16 (.s16 .g8))) (.c (.s16 (.s16 (.s16 .g9))) (.c (.s16 (.s16 (.s16 .g10))) (.c (.s16 (.s16 (.s16 .g11))) .n))))) (fun _ h=>h.sel (.c .g1 (.c .g1 .n)))
 exfalso;first | omega | contradiction
 refine Y.h rfl rfl .z rfl rfl (by decide) rfl ?_
 refine Y.h rfl rfl .g1 rfl rfl (by decide) rfl ?_
 refine Y.h rfl rfl .g2 rfl rfl (by decide) rfl ?_
 refine Y.h rfl rfl .g3 rfl rfl (by decide) rfl ?_
 refine Y.ql rfl (aV rfl (.t .g4) .c) (Y.as rfl .z (Y.nt ?_))
 refine Y.an (.t .z) ?_
 refine Y.seq (Y.region (Y.fa rfl (.s16 .g2) bW (Y.ld rfl bR .z .z (Y.ql rfl (bP rfl (.t .z) .c) (Y.mv rfl .z ?_)))))
 refine Y.ak .z (fun g20=> ?_) (fun g20=> ?_)
 refine Y.qg rfl rfl .z rfl rfl rfl (aS rfl (.t (.s16 .g3))) ?_
 refine Y.qg rfl rfl .g1 rfl rfl rfl (bP rfl (.t .z) .c) ?_
 refine Y.ql rfl (bB rfl (.t .g2) (.t .z)) (Y.mv rfl .z ?_)
 refine Y.ak .z (fun g21=> ?_) (fun g21=> ?_)
 refine Y.qg rfl rfl .z rfl rfl rfl (aS rfl (.t (.s16 .g2))) ?_
 refine Y.qg rfl rfl .g1 rfl rfl rfl (cC rfl (.t .z) .c) ?_
 refine Y.ql rfl (bB rfl (.t .g2) (.t .z)) (Y.er .g11 (Y.as rfl .z (Y.nt ?_)))
 refine Y.ad (.t .z) (fun bt=> ?_) (fun bt=> ?_)
 refine Y.skip (Y.g ?_)
 refine Y.ad (.t .z) (fun bu=> ?_) (fun bu=> ?_)
 refine Y.seq (Y.region (Y.ql rfl (aA rfl .c) (Y.nt (Y.ret (Y.v (Y.v (Y.m ?_)))))))
 refine Y.m (Y.v (Y.m ?_))
 refine Y.j (aT rfl .z) .n ?_
 exact⟨by first |(rw [kI (fun hl=>by have aa:=hl k _ ab;first |(have e:=aa.file (by omega);omega) |(have e:=aa.root (by omega) (by omega);omega) |(have e:=aa.dir (by omega) (by omega);omega) | exact absurd (aa.way (by omega)) (by assumption))];done) |(rw [kM (fZ (k:=k) (by omega) hallk)];done),rfl⟩
 exfalso;first | omega | contradiction
 refine Y.seq (Y.region (Y.fa rfl (.s16 .g13) bW (Y.ld rfl bR .z .z (Y.ql rfl (bP rfl (.t .z) .c) (Y.mv rfl .z ?_)))))
 refine Y.ak .z (fun g24=> ?_) (fun g24=> ?_)
 refine Y.qg rfl rfl .z rfl rfl rfl (aS rfl (.t (.s16 .g14))) ?_
 refine Y.qg rfl rfl .g1 rfl rfl rfl (gA rfl (.t .z) .c) ?_
 refine Y.ql rfl (bB rfl (.t .g2) (.t .z)) (Y.mv rfl .z ?_)
 refine Y.ak .z (fun g25=> ?_) (fun g25=> ?_)
 refine Y.qg rfl rfl .z rfl rfl rfl (aS rfl (.t (.s16 .g13))) ?_
 refine Y.qg rfl rfl .g1 rfl rfl rfl (cC rfl (.t .z) .c) ?_
 refine Y.ql rfl (bB rfl (.t .g2) (.t .z)) (Y.er .g11 (Y.as rfl .z (Y.nt ?_)))
 refine Y.ad (.t .z) (fun bv=> ?_) (fun bv=> ?_)
 refine Y.skip (Y.g ?_)
 refine Y.ad (.t .z) (fun bw=> ?_) (fun bw=> ?_)
 refine Y.seq (Y.region (Y.ql rfl (aA rfl .c) (Y.nt (Y.ret (Y.v (Y.v (Y.m ?_)))))))
 refine Y.m (Y.v (Y.m ?_))
 refine Y.j (aT rfl .z) .n ?_
 exact⟨by first |(rw [kI (fun hl=>by have aa:=hl k _ ab;first |(have e:=aa.file (by omega);omega) |(have e:=aa.root (by omega) (by omega);omega) |(have e:=aa.dir (by omega) (by omega);omega) | exact absurd (aa.way (by omega)) (by assumption))];done) |(rw [kM (fZ (k:=k) (by omega) hallk)];done),rfl⟩
 exfalso;first | omega | contradiction
 exfalso;first | omega | contradiction
 refine Y.h rfl rfl .z rfl rfl (by decide) rfl ?_
 refine Y.h rfl rfl .g1 rfl rfl (by decide) rfl ?_
 refine Y.ql rfl (aV rfl (.t .g2) .c) (Y.er .g11 (Y.as rfl .z (Y.nt ?_)))
 refine Y.an (.t .z) ?_
 refine Y.region (Y.fa rfl (.s16 (.s16 .g8)) bW (Y.ld rfl bR .z .z (Y.ql rfl (cC rfl (.t .z) .c) (Y.mv rfl .z ?_))))
 refine Y.ao .z (fun g28=> ?_) (fun g28=> ?_)
 refine Y.qg rfl rfl .z rfl rfl rfl (aS rfl (.t (.s16 (.s16 (.s16 .g4))))) ?_
 refine Y.qg rfl rfl .g1 rfl rfl rfl (aS rfl (.t (.s16 (.s16 .g10)))) ?_
 refine Y.call (dX rfl rfl .g2) rfl (by decide) rfl (bF rfl Tryz.func140 rfl rfl (aR (.t .g1) (.t .z))) .n (fun _ _ hs tr=>uI (tr.own .g1) _) ?_
 rintro _ _ ⟨rfl,rfl⟩
 refine Y.r .n ?_
 refine Y.qg rfl rfl .g3 rfl rfl rfl (eY rfl (.t .z)) ?_
 refine Y.ql rfl (bB rfl (.t .g4) (.t .z)) (Y.er .g9 (Y.as rfl .z (Y.nt ?_)))
 refine Y.ad (.t .z) (fun bx=> ?_) (fun bx=> ?_)
 refine Y.seq (Y.region (Y.ql rfl (aA rfl .c) (Y.nt (Y.ret (Y.v (Y.v (Y.m ?_)))))))
 refine Y.m (Y.v (Y.m ?_))
 refine Y.j (aT rfl .z) .n ?_
 exact⟨by first |(rw [kI (fun hl=>by have aa:=hl k _ ab;first |(have e:=aa.file (by omega);omega) |(have e:=aa.root (by omega) (by omega);omega) |(have e:=aa.dir (by omega) (by omega);omega) | exact absurd (aa.way (by omega)) (by assumption))];done) |(rw [kM (fZ (k:=k) (by omega) hallk)];done),rfl⟩
 refine Y.skip (Y.y (Y.y (Y.g (Y.region ?_))))
 refine Y.ql rfl (bG (c:=((k+1:Nat):Int)) rfl (.t (.s16 (.s16 (.s16 .g6)))) .c (wr (by omega) (by omega) (by omega))) ?_
 refine Y.er (.s16 (.s16 (.s16 .g7))) (Y.mv rfl .z (Y.nil ?_))
 refine Y.ae (k+1) ⟨by omega,dY (q:=fun j x=>kZ f j x) hallk ab ⟨fun h1=>by first | omega | contradiction,fun h1 h2=>by first | omega | contradiction,fun h1 h2=>by first | omega | contradiction,fun h1=>by first | assumption | contradiction |(exfalso;omega)⟩⟩ (by first | omega |(dsimp only;omega)) (.c .z (.c (.s16 (.s16 (.s16 .g8))) (.c (.s16 (.s16 (.s16 .g9))) (.c (.s16 (.s16 (.s16 .g10))) (.c (.s16 (.s16 (.s16 .g11))) .n))))) (fun _ h=>h.sel (.c .g1 (.c .g1 .n)))
 exfalso;first | omega | contradiction
 exfalso;first | omega | contradiction
 refine Y.h rfl rfl .z rfl rfl (by decide) rfl ?_
 refine Y.h rfl rfl .g1 rfl rfl (by decide) rfl ?_
 refine Y.ql rfl (aV rfl (.t .g2) .c) (Y.er .g11 (Y.as rfl .z (Y.nt ?_)))
 refine Y.an (.t .z) ?_
 refine Y.seq (Y.region (Y.fa rfl (.s16 .g13) bW (Y.ld rfl bR .z .z (Y.ql rfl (bP rfl (.t .z) .c) (Y.mv rfl .z ?_)))))
 refine Y.ak .z (fun g30=> ?_) (fun g30=> ?_)
 refine Y.qg rfl rfl .z rfl rfl rfl (aS rfl (.t (.s16 .g14))) ?_
 refine Y.qg rfl rfl .g1 rfl rfl rfl (gA rfl (.t .z) .c) ?_
 refine Y.ql rfl (bB rfl (.t .g2) (.t .z)) (Y.mv rfl .z ?_)
 refine Y.ak .z (fun g31=> ?_) (fun g31=> ?_)
 refine Y.qg rfl rfl .z rfl rfl rfl (aS rfl (.t (.s16 .g13))) ?_
 refine Y.qg rfl rfl .g1 rfl rfl rfl (cC rfl (.t .z) .c) ?_
 refine Y.ql rfl (bB rfl (.t .g2) (.t .z)) (Y.er .g11 (Y.as rfl .z (Y.nt ?_)))
 refine Y.ad (.t .z) (fun bz=> ?_) (fun bz=> ?_)
 refine Y.skip (Y.g ?_)
 refine Y.ad (.t .z) (fun b0=> ?_) (fun b0=> ?_)
 refine Y.seq (Y.region (Y.ql rfl (aA rfl .c) (Y.nt (Y.ret (Y.v (Y.v (Y.m ?_)))))))
 refine Y.m (Y.v (Y.m ?_))
 refine Y.j (aT rfl .z) .n ?_
 exact⟨by first |(rw [kI (fun hl=>by have aa:=hl k _ ab;first |(have e:=aa.file (by omega);omega) |(have e:=aa.root (by omega) (by omega);omega) |(have e:=aa.dir (by omega) (by omega);omega) | exact absurd (aa.way (by omega)) (by assumption))];done) |(rw [kM (fZ (k:=k) (by omega) hallk)];done),rfl⟩
 exfalso;first | omega | contradiction
 refine Y.region (Y.fa rfl (.s16 (.s16 .g8)) bW (Y.ld rfl bR .z .z (Y.ql rfl (cC rfl (.t .z) .c) (Y.mv rfl .z ?_))))
 refine Y.ao .z (fun g34=> ?_) (fun g34=> ?_)
 refine Y.qg rfl rfl .z rfl rfl rfl (aS rfl (.t (.s16 (.s16 (.s16 .g4))))) ?_
 refine Y.qg rfl rfl .g1 rfl rfl rfl (aS rfl (.t (.s16 (.s16 .g10)))) ?_
 refine Y.call (dX rfl rfl .g2) rfl (by decide) rfl (bF rfl Tryz.func140 rfl rfl (aR (.t .g1) (.t .z))) .n (fun _ _ hs tr=>uI (tr.own .g1) _) ?_
 rintro _ _ ⟨rfl,rfl⟩
 refine Y.r .n ?_
 refine Y.qg rfl rfl .g3 rfl rfl rfl (eY rfl (.t .z)) ?_
 refine Y.ql rfl (bB rfl (.t .g4) (.t .z)) (Y.er .g9 (Y.as rfl .z (Y.nt ?_)))
 refine Y.ad (.t .z) (fun b1=> ?_) (fun b1=> ?_)
 refine Y.seq (Y.region (Y.ql rfl (aA rfl .c) (Y.nt (Y.ret (Y.v (Y.v (Y.m ?_)))))))
 refine Y.m (Y.v (Y.m ?_))
 refine Y.j (aT rfl .z) .n ?_
 exact⟨by first |(rw [kI (fun hl=>by have aa:=hl k _ ab;first |(have e:=aa.file (by omega);omega) |(have e:=aa.root (by omega) (by omega);omega) |(have e:=aa.dir (by omega) (by omega);omega) | exact absurd (aa.way (by omega)) (by assumption))];done) |(rw [kM (fZ (k:=k) (by omega) hallk)];done),rfl⟩
 refine Y.skip (Y.y (Y.y (Y.g (Y.region ?_))))
 refine Y.ql rfl (bG (c:=((k+1:Nat):Int)) rfl (.t (.s16 (.s16 (.s16 .g6)))) .c (wr (by omega) (by omega) (by omega))) ?_
 refine Y.er (.s16 (.s16 (.s16 .g7))) (Y.mv rfl .z (Y.nil ?_))
 refine Y.ae (k+1) ⟨by omega,dY (q:=fun j x=>kZ f j x) hallk ab ⟨fun h1=>by first | omega | contradiction,fun h1 h2=>by first | omega | contradiction,fun h1 h2=>by first | omega | contradiction,fun h1=>by first | assumption | contradiction |(exfalso;omega)⟩⟩ (by first | omega |(dsimp only;omega)) (.c .z (.c (.s16 (.s16 (.s16 .g8))) (.c (.s16 (.s16 (.s16 .g9))) (.c (.s16 (.s16 (.s16 .g10))) (.c (.s16 (.s16 (.s16 .g11))) .n))))) (fun _ h=>h.sel (.c .g1 (.c .g1 .n)))
 exfalso;first | omega | contradiction
 refine Y.h rfl rfl .z rfl rfl (by decide) rfl ?_
 refine Y.h rfl rfl .g1 rfl rfl (by decide) rfl ?_
 refine Y.ql rfl (aV rfl (.t .g2) .c) (Y.er .g11 (Y.as rfl .z (Y.nt ?_)))
 refine Y.an (.t .z) ?_
 refine Y.region (Y.fa rfl (.s16 (.s16 .g8)) bW (Y.ld rfl bR .z .z (Y.ql rfl (cC rfl (.t .z) .c) (Y.mv rfl .z ?_))))
 refine Y.ao .z (fun g36=> ?_) (fun g36=> ?_)
 refine Y.qg rfl rfl .z rfl rfl rfl (aS rfl (.t (.s16 (.s16 (.s16 .g4))))) ?_
 refine Y.qg rfl rfl .g1 rfl rfl rfl (aS rfl (.t (.s16 (.s16 .g10)))) ?_
 refine Y.call (dX rfl rfl .g2) rfl (by decide) rfl (bF rfl Tryz.func140 rfl rfl (aR (.t .g1) (.t .z))) .n (fun _ _ hs tr=>uI (tr.own .g1) _) ?_
 rintro _ _ ⟨rfl,rfl⟩
 refine Y.r .n ?_
 refine Y.qg rfl rfl .g3 rfl rfl rfl (eY rfl (.t .z)) ?_
 refine Y.ql rfl (bB rfl (.t .g4) (.t .z)) (Y.er .g9 (Y.as rfl .z (Y.nt ?_)))
 refine Y.ad (.t .z) (fun b2=> ?_) (fun b2=> ?_)
 refine Y.seq (Y.region (Y.ql rfl (aA rfl .c) (Y.nt (Y.ret (Y.v (Y.v (Y.m ?_)))))))
 refine Y.m (Y.v (Y.m ?_))
 refine Y.j (aT rfl .z) .n ?_
 exact⟨by first |(rw [kI (fun hl=>by have aa:=hl k _ ab;first |(have e:=aa.file (by omega);omega) |(have e:=aa.root (by omega) (by omega);omega) |(have e:=aa.dir (by omega) (by omega);omega) | exact absurd (aa.way (by omega)) (by assumption))];done) |(rw [kM (fZ (k:=k) (by omega) hallk)];done),rfl⟩
 refine Y.skip (Y.y (Y.y (Y.g (Y.region ?_))))
 refine Y.ql rfl (bG (c:=((k+1:Nat):Int)) rfl (.t (.s16 (.s16 (.s16 .g6)))) .c (wr (by omega) (by omega) (by omega))) ?_
 refine Y.er (.s16 (.s16 (.s16 .g7))) (Y.mv rfl .z (Y.nil ?_))
 refine Y.ae (k+1) ⟨by omega,dY (q:=fun j x=>kZ f j x) hallk ab ⟨fun h1=>by first | omega | contradiction,fun h1 h2=>by first | omega | contradiction,fun h1 h2=>by first | omega | contradiction,fun h1=>by first | assumption | contradiction |(exfalso;omega)⟩⟩ (by first | omega |(dsimp only;omega)) (.c .z (.c (.s16 (.s16 (.s16 .g8))) (.c (.s16 (.s16 (.s16 .g9))) (.c (.s16 (.s16 (.s16 .g10))) (.c (.s16 (.s16 (.s16 .g11))) .n))))) (fun _ h=>h.sel (.c .g1 (.c .g1 .n)))
 exfalso;first | omega | contradiction
 exfalso;first | omega | contradiction
 refine Y.h rfl rfl .z rfl rfl (by decide) rfl ?_
 refine Y.h rfl rfl .g1 rfl rfl (by decide) rfl ?_
 refine Y.ql rfl (aV rfl (.t .g2) .c) (Y.mv rfl .z ?_)
 refine Y.h rfl rfl .z rfl rfl (by decide) rfl ?_
 refine Y.h rfl rfl .g1 rfl rfl (by decide) rfl ?_
 refine Y.ql rfl (aV rfl (.t .g2) .c) (Y.er .g11 (Y.as rfl .z (Y.nt ?_)))
 refine Y.an (.t .z) ?_
 refine Y.seq (Y.region (Y.fa rfl (.s16 .g13) bW (Y.ld rfl bR .z .z (Y.ql rfl (bP rfl (.t .z) .c) (Y.mv rfl .z ?_)))))
 refine Y.ak .z (fun g38=> ?_) (fun g38=> ?_)
 exfalso;first | omega | contradiction
 refine Y.h rfl rfl .z rfl rfl (by decide) rfl ?_
 refine Y.h rfl rfl .g1 rfl rfl (by decide) rfl ?_
 refine Y.ql rfl (aV rfl (.t .g2) .c) (Y.mv rfl .z ?_)
 refine Y.h rfl rfl .z rfl rfl (by decide) rfl ?_
 refine Y.h rfl rfl .g1 rfl rfl (by decide) rfl ?_
 refine Y.ql rfl (aV rfl (.t .g2) .c) (Y.er .g11 (Y.as rfl .z (Y.nt ?_)))
 refine Y.an (.t .z) ?_
 refine Y.region (Y.fa rfl (.s16 (.s16 .g8)) bW (Y.ld rfl bR .z .z (Y.ql rfl (cC rfl (.t .z) .c) (Y.mv rfl .z ?_))))
 refine Y.ao .z (fun g39=> ?_) (fun g39=> ?_)
 refine Y.qg rfl rfl .z rfl rfl rfl (aS rfl (.t (.s16 (.s16 (.s16 .g4))))) ?_
 refine Y.qg rfl rfl .g1 rfl rfl rfl (aS rfl (.t (.s16 (.s16 .g10)))) ?_
 refine Y.call (dX rfl rfl .g2) rfl (by decide) rfl (bF rfl Tryz.func140 rfl rfl (aR (.t .g1) (.t .z))) .n (fun _ _ hs tr=>uI (tr.own .g1) _) ?_
 rintro _ _ ⟨rfl,rfl⟩
 refine Y.r .n ?_
 refine Y.qg rfl rfl .g3 rfl rfl rfl (eY rfl (.t .z)) ?_
 refine Y.ql rfl (bB rfl (.t .g4) (.t .z)) (Y.er .g9 (Y.as rfl .z (Y.nt ?_)))
 refine Y.ad (.t .z) (fun b3=> ?_) (fun b3=> ?_)
 refine Y.seq (Y.region (Y.ql rfl (aA rfl .c) (Y.nt (Y.ret (Y.v (Y.v (Y.m ?_)))))))
 refine Y.m (Y.v (Y.m ?_))
 refine Y.j (aT rfl .z) .n ?_
 exact⟨by first |(rw [kI (fun hl=>by have aa:=hl k _ ab;first |(have e:=aa.file (by omega);omega) |(have e:=aa.root (by omega) (by omega);omega) |(have e:=aa.dir (by omega) (by omega);omega) | exact absurd (aa.way (by omega)) (by assumption))];done) |(rw [kM (fZ (k:=k) (by omega) hallk)];done),rfl⟩
 refine Y.skip (Y.y (Y.y (Y.g (Y.region ?_))))
 refine Y.ql rfl (bG (c:=((k+1:Nat):Int)) rfl (.t (.s16 (.s16 (.s16 .g6)))) .c (wr (by omega) (by omega) (by omega))) ?_
 refine Y.er (.s16 (.s16 (.s16 .g7))) (Y.mv rfl .z (Y.nil ?_))
 refine Y.ae (k+1) ⟨by omega,dY (q:=fun j x=>kZ f j x) hallk ab ⟨fun h1=>by first | omega | contradiction,fun h1 h2=>by first | omega | contradiction,fun h1 h2=>by first | omega | contradiction,fun h1=>by first | assumption | contradiction |(exfalso;omega)⟩⟩ (by first | omega |(dsimp only;omega)) (.c .z (.c (.s16 (.s16 (.s16 .g8))) (.c (.s16 (.s16 (.s16 .g9))) (.c (.s16 (.s16 (.s16 .g10))) (.c (.s16 (.s16 (.s16 .g11))) .n))))) (fun _ h=>h.sel (.c .g1 (.c .g1 .n)))
 refine Y.h rfl rfl .z rfl rfl (by decide) rfl ?_
 refine Y.h rfl rfl .g1 rfl rfl (by decide) rfl ?_
 refine Y.h rfl rfl .g2 rfl rfl (by decide) rfl ?_
 refine Y.h rfl rfl .g3 rfl rfl (by decide) rfl ?_
 refine Y.ql rfl (aV rfl (.t .g4) .c) (Y.er .g9 (Y.as rfl .z (Y.nt ?_)))
 refine Y.an (.t .z) ?_
 refine Y.skip (Y.y (Y.y (Y.g (Y.region ?_))))
 refine Y.ql rfl (bG (c:=((k+1:Nat):Int)) rfl (.t (.s16 (.s16 (.s16 .g6)))) .c (wr (by omega) (by omega) (by omega))) ?_
 refine Y.er (.s16 (.s16 (.s16 .g7))) (Y.mv rfl .z (Y.nil ?_))
 refine Y.ae (k+1) ⟨by omega,dY (q:=fun j x=>kZ f j x) hallk ab ⟨fun h1=>by first | omega | contradiction,fun h1 h2=>by first | omega | contradiction,fun h1 h2=>by first | omega | contradiction,fun h1=>by first | assumption | contradiction |(exfalso;omega)⟩⟩ (by first | omega |(dsimp only;omega)) (.c .z (.c (.s16 (.s16 (.s16 .g8))) (.c (.s16 (.s16 (.s16 .g9))) (.c (.s16 (.s16 (.s16 .g10))) (.c (.s16 (.s16 (.s16 .g11))) .n))))) (fun _ h=>h.sel (.c .g1 (.c .g1 .n)))
 refine Y.exit (Y.w (Y.w (Y.ag (Y.g (Y.seq (Y.region (Y.ql rfl (aA rfl .c) (Y.nil ?_))))))))
 refine Y.g (Y.ret ?_)
 refine Y.j (aT rfl .z) .n ?_
 exact⟨by first |(rw [kM (fZ (k:=k) (by omega) hallk)];done),rfl⟩

theorem aKj {w0:World}{S0:Bs}{f:DFs}{ak:Addr} (h0:gJ eS w0 (FF w0 S0) ak f) (ht:bK f=0):
    Calls Tryz.prog 102 #[.pointer (some ak)] w0 (aI w0 S0 (fun r l=>r= .bool (decide (kE f))∧l= [])):=by
 obtain⟨b0,al,bf,am⟩:=id h0
 obtain⟨bg,bh,rfl,ae,an⟩:=cQ bf
 obtain⟨bi,bj,rfl,a0,a1,a2,af⟩:=aD ae
 obtain⟨bk,bm,rfl,a3,a4,a5,a6⟩:=aD an
 have hI:=kC ht
 have hG:=uJ ht
 have b1:=yB ht
 have b2:=kV hI
 have bn:=kD ht
 refine Y.enter (N:=59) Tryz.func102 rfl rfl (by simp) [(0,.pointer (some ak))] (by simp) (l0:= []) trivial ?_
 refine Y.seq (Y.region (Y.ql rfl (aA rfl .c) (Y.nt (Y.seq (Y.region (Y.mv rfl .g1 ?_))))))
 refine Y.cl rfl rfl Tryz.func53 rfl rfl (bH (.t .z)) .n (fun _ _ hs tr=>aM8 (tr.ctxP h0) (by assumption)) ?_
 rintro _ _ rfl
 refine Y.r (.c .n) ?_
 refine Y.i (WS.a .z) ?_
 rintro⟨a7,a8,rfl,bo,bp,bq⟩
 refine Y.as rfl .z (Y.nt (Y.seq (Y.seq (Y.region (Y.ql rfl (aA rfl .c) (Y.nt ?_))))))
 refine Y.block ?_
 refine Y.ah (γ:=Nat) (fun k=> [(4,.int .i64 (k:Int)),(3,.slice a7 (lW (f).inodes 0).length a8),(0,.pointer (some ak))]) (fun k=> [aG aY (lW (f).inodes 0) [.slice a7 (lW (f).inodes 0).length a8]]) (fun k=>k≤f.inodes.length∧∀j x,j<k→f.inodes[j]? =some x→kZ f j x) (fun k=>f.inodes.length - k) 0 ⟨Nat.zero_le _,eR (q:=fun j x=>kZ f j x)⟩ (.c .z (.c .g1 (.c .g5 .n))) (fun _ h=>h.sel (.c .z .n)) ?_
 rintro k ⟨hk,hallk⟩
 refine Y.seq (Y.seq (Y.region (Y.mv rfl .z (Y.mv rfl .g3 (Y.nc rfl .z (Y.fa rfl .z aP (Y.le rfl bO .z al am (Y.ql rfl (bE rfl cI (.t .z)) ?_))))))))
 refine Y.ql rfl (cU rfl (.t .g5) (.t .z)) (Y.nt ?_)
 refine Y.u (.t .z) (fun b5=> ?_) (fun b5=> ?_)
 refine Y.skip (Y.g (Y.seq (Y.block (Y.seq (Y.region (Y.mv rfl .g9 (Y.nc rfl .z (Y.fa rfl .z aP ?_))))))))
 refine Y.le rfl bO .z al am (Y.mv rfl .g11 ?_)
 obtain⟨b3,ag,ah⟩:=af (by omega)
 subst ag
 obtain⟨x7,ab⟩:=aJ (xs:=f.inodes) (j:=k) (by omega)
 obtain⟨br,ao,ac,ad⟩:=ah.elem ab
 obtain⟨a9,ba,rfl,ai,aj⟩:=bV ao
 obtain⟨bb,bc,rfl,ap,aq,ar,au⟩:=aD ai
 obtain⟨bd,be,rfl,av,aw,ax,ay⟩:=aD aj
 have b4:=cZ (i:=((k:Nat):Int)) ab (by omega)
 have b6:=dD (a:=((k:Nat):Int)) ab (by omega)
 have az:=dI hI _ (List.mem_of_getElem? ab)
 have bs:=zT az
 refine Y.ql rfl (aB (j:=k) rfl cI aU (.t .g1) (.t .z) rfl (by omega)) ?_
 refine Y.as rfl .z (Y.nt (Y.seq (Y.region (Y.mv rfl .g16 (Y.nc rfl .z (Y.fa rfl .z aP (Y.le rfl bO .z al am ?_)))))))
 refine Y.mv rfl (.s16 .g2) ?_
 refine Y.cl rfl rfl Tryz.func142 rfl rfl (aR (.t .g1) (.t .z)) .n (fun _ _ hs tr=>aI6 (tr.ctx ae) _ (by first | assumption | exact wY (by assumption) _ |(simp only [dH] at *;assumption))) ?_
 rintro _ _ ⟨rfl,rfl⟩
 refine Y.r .n ?_
 refine Y.as rfl .z (Y.nt (Y.seq (Y.region (Y.ql rfl (aA rfl .c) (Y.nt (Y.seq ?_))))))
 refine Y.block (Y.seq (Y.region (Y.mv rfl .g8 (Y.nc rfl .z (Y.fa rfl .z bW (Y.le rfl bR .z ac ad (Y.ql rfl (bP rfl (.t .z) .c) (Y.as rfl .z ?_))))))))
 refine Y.nt ?_
 refine Y.u (.t .z) (fun bt=> ?_) (fun bt=> ?_)
 refine Y.exit ?_
 refine Y.a5 (by decide) ?_
 refine Y.w (Y.ag (Y.g (Y.region (Y.mv rfl (.s16 .g12) ?_))))
 refine Y.ql rfl (bG (c:=((k+1:Nat):Int)) rfl (.t .z) .c (wr (by omega) (by omega) (by omega))) ?_
 refine Y.er (.s16 .g14) (Y.as rfl .z (Y.nil ?_))
 refine Y.ae (k+1) ⟨by omega,dY (q:=fun j x=>kZ f j x) hallk ab ⟨fun h1=>by first | omega | contradiction,fun h1 h2=>by first | omega | contradiction,fun h1 h2=>by first | omega | contradiction,fun h1=>by first | assumption | contradiction |(exfalso;omega)⟩⟩ (by first | omega |(dsimp only;omega)) (.c .z (.c (.s16 .g15) (.c (.s16 .g16) .n))) (fun _ h=>h.sel (.c .z .n))
 refine Y.seq (Y.region (Y.mv rfl .g14 (Y.nc rfl .z (Y.fa rfl .z bW (Y.le rfl bR .z ac ad (Y.ql rfl (bP rfl (.t .z) .c) (Y.as rfl .z (Y.nil ?_))))))))
 refine Y.g ?_
 refine Y.u (.t .z) (fun bu=> ?_) (fun bu=> ?_)
 refine Y.region (Y.mv rfl (.s16 .g4) (Y.nc rfl .z (Y.fa rfl .z iR (Y.le rfl bR .z ac ad (Y.er .g16 (Y.as rfl .z (Y.nil (Y.y ?_))))))))
 refine Y.g (Y.seq (Y.region (Y.mv rfl (.s16 .g1) (Y.mv rfl .g1 (Y.ql rfl (cC rfl (.t .g1) (.t .z)) (Y.mv rfl .z ?_))))))
 refine Y.ao .z (fun g13=> ?_) (fun g13=> ?_)
 refine Y.h rfl rfl .z rfl rfl (by decide) rfl ?_
 refine Y.h rfl rfl .g1 rfl rfl (by decide) rfl ?_
 refine Y.h rfl rfl .g2 rfl rfl (by decide) rfl ?_
 refine Y.h rfl rfl .g3 rfl rfl (by decide) rfl ?_
 refine Y.ql rfl (bB rfl (.t .g4) .c) (Y.nt ?_)
 refine Y.ap (.t .z) ?_
 refine Y.seq (Y.region (Y.ql rfl (aA rfl .c) (Y.nt (Y.ret (Y.v (Y.m (Y.m ?_)))))))
 refine Y.v (Y.m ?_)
 refine Y.j (aT rfl .z) .n ?_
 exact⟨by first |(rw [decide_eq_true (fZ (k:=k) (by omega) hallk)];done) |(rw [decide_eq_false (fun hl=>by have aa:=hl k _ ab;first |(have e:=aa.file (by omega);omega) |(have e:=aa.root (by omega) (by omega);omega) |(have e:=aa.dir (by omega) (by omega);omega) | exact absurd (aa.way (by omega)) (by assumption))];done),rfl⟩
 refine Y.qg rfl rfl .z rfl rfl rfl (aS rfl (.t (.s16 (.s16 .g11)))) ?_
 refine Y.qg rfl rfl .g1 rfl rfl rfl (aS rfl (.t (.s16 (.s16 .g11)))) ?_
 refine Y.call (dX rfl rfl .g2) rfl (by decide) rfl (bF rfl Tryz.func143 rfl rfl (aR (.t .g1) (.t .z))) .n (fun _ _ hs tr=>aD1 (tr.own .z) _) ?_
 rintro _ _ ⟨rfl,rfl⟩
 refine Y.r .n ?_
 refine Y.qg rfl rfl .g3 rfl rfl rfl (eY rfl (.t .z)) ?_
 refine Y.ql rfl (aV rfl (.t .g4) (.t .z)) (Y.nt ?_)
 refine Y.ad (.t .z) (fun bv=> ?_) (fun bv=> ?_)
 refine Y.seq (Y.region (Y.ql rfl (aA rfl .c) (Y.nt (Y.ret (Y.v (Y.m (Y.m ?_)))))))
 refine Y.v (Y.m ?_)
 refine Y.j (aT rfl .z) .n ?_
 exact⟨by first |(rw [decide_eq_true (fZ (k:=k) (by omega) hallk)];done) |(rw [decide_eq_false (fun hl=>by have aa:=hl k _ ab;first |(have e:=aa.file (by omega);omega) |(have e:=aa.root (by omega) (by omega);omega) |(have e:=aa.dir (by omega) (by omega);omega) | exact absurd (aa.way (by omega)) (by assumption))];done),rfl⟩
 refine Y.skip (Y.y (Y.g (Y.region (Y.mv rfl (.s16 (.s16 .g15)) ?_))))
 refine Y.ql rfl (bG (c:=((k+1:Nat):Int)) rfl (.t .z) .c (wr (by omega) (by omega) (by omega))) ?_
 refine Y.er (.s16 (.s16 (.s16 .g1))) (Y.as rfl .z (Y.nil ?_))
 refine Y.ae (k+1) ⟨by omega,dY (q:=fun j x=>kZ f j x) hallk ab ⟨fun h1=>by first | omega | contradiction,fun h1 h2=>by first | omega | contradiction,fun h1 h2=>by first | omega | contradiction,fun h1=>by first | assumption | contradiction |(exfalso;omega)⟩⟩ (by first | omega |(dsimp only;omega)) (.c .z (.c (.s16 (.s16 (.s16 .g2))) (.c (.s16 (.s16 (.s16 .g3))) .n))) (fun _ h=>h.sel (.c .z .n))
 refine Y.seq (Y.region (Y.mv rfl (.s16 (.s16 .g2)) (Y.ql rfl (bP rfl (.t .z) .c) (Y.as rfl .z (Y.nt ?_)))))
 refine Y.u (.t .z) (fun bw=> ?_) (fun bw=> ?_)
 refine Y.region (Y.er .g15 (Y.ql rfl (aA rfl .c) (Y.nil (Y.y (Y.g (Y.seq (Y.region (Y.mv rfl .g16 ?_))))))))
 refine Y.mv rfl .g1 (Y.ql rfl (cC rfl (.t .g1) (.t .z)) (Y.mv rfl .z ?_))
 refine Y.ao .z (fun g16=> ?_) (fun g16=> ?_)
 refine Y.h rfl rfl .z rfl rfl (by decide) rfl ?_
 refine Y.h rfl rfl .g1 rfl rfl (by decide) rfl ?_
 refine Y.h rfl rfl .g2 rfl rfl (by decide) rfl ?_
 refine Y.h rfl rfl .g3 rfl rfl (by decide) rfl ?_
 refine Y.ql rfl (bB rfl (.t .g4) .c) (Y.nt ?_)
 refine Y.ap (.t .z) ?_
 refine Y.seq (Y.region (Y.ql rfl (aA rfl .c) (Y.nt (Y.ret (Y.v (Y.m (Y.m ?_)))))))
 refine Y.v (Y.m ?_)
 refine Y.j (aT rfl .z) .n ?_
 exact⟨by first |(rw [decide_eq_true (fZ (k:=k) (by omega) hallk)];done) |(rw [decide_eq_false (fun hl=>by have aa:=hl k _ ab;first |(have e:=aa.file (by omega);omega) |(have e:=aa.root (by omega) (by omega);omega) |(have e:=aa.dir (by omega) (by omega);omega) | exact absurd (aa.way (by omega)) (by assumption))];done),rfl⟩
 refine Y.qg rfl rfl .z rfl rfl rfl (aS rfl (.t (.s16 (.s16 .g10)))) ?_
 refine Y.qg rfl rfl .g1 rfl rfl rfl (aS rfl (.t (.s16 (.s16 .g10)))) ?_
 refine Y.call (dX rfl rfl .g2) rfl (by decide) rfl (bF rfl Tryz.func143 rfl rfl (aR (.t .g1) (.t .z))) .n (fun _ _ hs tr=>aD1 (tr.own .z) _) ?_
 rintro _ _ ⟨rfl,rfl⟩
 refine Y.r .n ?_
 refine Y.qg rfl rfl .g3 rfl rfl rfl (eY rfl (.t .z)) ?_
 refine Y.ql rfl (aV rfl (.t .g4) (.t .z)) (Y.nt ?_)
 refine Y.ad (.t .z) (fun bx=> ?_) (fun bx=> ?_)
 refine Y.seq (Y.region (Y.ql rfl (aA rfl .c) (Y.nt (Y.ret (Y.v (Y.m (Y.m ?_)))))))
 refine Y.v (Y.m ?_)
 refine Y.j (aT rfl .z) .n ?_
 exact⟨by first |(rw [decide_eq_true (fZ (k:=k) (by omega) hallk)];done) |(rw [decide_eq_false (fun hl=>by have aa:=hl k _ ab;first |(have e:=aa.file (by omega);omega) |(have e:=aa.root (by omega) (by omega);omega) |(have e:=aa.dir (by omega) (by omega);omega) | exact absurd (aa.way (by omega)) (by assumption))];done),rfl⟩
 refine Y.skip (Y.y (Y.g (Y.region (Y.mv rfl (.s16 (.s16 .g14)) ?_))))
 refine Y.ql rfl (bG (c:=((k+1:Nat):Int)) rfl (.t .z) .c (wr (by omega) (by omega) (by omega))) ?_
 refine Y.er (.s16 (.s16 .g16)) (Y.as rfl .z (Y.nil ?_))
 refine Y.ae (k+1) ⟨by omega,dY (q:=fun j x=>kZ f j x) hallk ab ⟨fun h1=>by first | omega | contradiction,fun h1 h2=>by first | omega | contradiction,fun h1 h2=>by first | omega | contradiction,fun h1=>by first | assumption | contradiction |(exfalso;omega)⟩⟩ (by first | omega |(dsimp only;omega)) (.c .z (.c (.s16 (.s16 (.s16 .g1))) (.c (.s16 (.s16 (.s16 .g2))) .n))) (fun _ h=>h.sel (.c .z .n))
 refine Y.skip (Y.y (Y.g (Y.seq (Y.region (Y.mv rfl .g16 (Y.mv rfl .g16 (Y.ql rfl (cC rfl (.t .g1) (.t .z)) (Y.mv rfl .z ?_))))))))
 refine Y.ao .z (fun g18=> ?_) (fun g18=> ?_)
 refine Y.h rfl rfl .z rfl rfl (by decide) rfl ?_
 refine Y.h rfl rfl .g1 rfl rfl (by decide) rfl ?_
 refine Y.h rfl rfl .g2 rfl rfl (by decide) rfl ?_
 refine Y.h rfl rfl .g3 rfl rfl (by decide) rfl ?_
 refine Y.ql rfl (bB rfl (.t .g4) .c) (Y.nt ?_)
 refine Y.ap (.t .z) ?_
 refine Y.seq (Y.region (Y.ql rfl (aA rfl .c) (Y.nt (Y.ret (Y.v (Y.m (Y.m ?_)))))))
 refine Y.v (Y.m ?_)
 refine Y.j (aT rfl .z) .n ?_
 exact⟨by first |(rw [decide_eq_true (fZ (k:=k) (by omega) hallk)];done) |(rw [decide_eq_false (fun hl=>by have aa:=hl k _ ab;first |(have e:=aa.file (by omega);omega) |(have e:=aa.root (by omega) (by omega);omega) |(have e:=aa.dir (by omega) (by omega);omega) | exact absurd (aa.way (by omega)) (by assumption))];done),rfl⟩
 refine Y.qg rfl rfl .z rfl rfl rfl (aS rfl (.t (.s16 (.s16 .g10)))) ?_
 refine Y.qg rfl rfl .g1 rfl rfl rfl (aS rfl (.t (.s16 (.s16 .g10)))) ?_
 refine Y.call (dX rfl rfl .g2) rfl (by decide) rfl (bF rfl Tryz.func143 rfl rfl (aR (.t .g1) (.t .z))) .n (fun _ _ hs tr=>aD1 (tr.own .z) _) ?_
 rintro _ _ ⟨rfl,rfl⟩
 refine Y.r .n ?_
 refine Y.qg rfl rfl .g3 rfl rfl rfl (eY rfl (.t .z)) ?_
 refine Y.ql rfl (aV rfl (.t .g4) (.t .z)) (Y.nt ?_)
 refine Y.ad (.t .z) (fun bz=> ?_) (fun bz=> ?_)
 refine Y.seq (Y.region (Y.ql rfl (aA rfl .c) (Y.nt (Y.ret (Y.v (Y.m (Y.m ?_)))))))
 refine Y.v (Y.m ?_)
 refine Y.j (aT rfl .z) .n ?_
 exact⟨by first |(rw [decide_eq_true (fZ (k:=k) (by omega) hallk)];done) |(rw [decide_eq_false (fun hl=>by have aa:=hl k _ ab;first |(have e:=aa.file (by omega);omega) |(have e:=aa.root (by omega) (by omega);omega) |(have e:=aa.dir (by omega) (by omega);omega) | exact absurd (aa.way (by omega)) (by assumption))];done),rfl⟩
 refine Y.skip (Y.y (Y.g (Y.region (Y.mv rfl (.s16 (.s16 .g14)) ?_))))
 refine Y.ql rfl (bG (c:=((k+1:Nat):Int)) rfl (.t .z) .c (wr (by omega) (by omega) (by omega))) ?_
 refine Y.er (.s16 (.s16 .g16)) (Y.as rfl .z (Y.nil ?_))
 refine Y.ae (k+1) ⟨by omega,dY (q:=fun j x=>kZ f j x) hallk ab ⟨fun h1=>by first | omega | contradiction,fun h1 h2=>by first | omega | contradiction,fun h1 h2=>by first | omega | contradiction,fun h1=>by first | assumption | contradiction |(exfalso;omega)⟩⟩ (by first | omega |(dsimp only;omega)) (.c .z (.c (.s16 (.s16 (.s16 .g1))) (.c (.s16 (.s16 (.s16 .g2))) .n))) (fun _ h=>h.sel (.c .z .n))
 refine Y.exit (Y.w (Y.w (Y.ag (Y.g (Y.seq (Y.region (Y.ql rfl (aA rfl .c) (Y.nil ?_))))))))
 refine Y.g (Y.ret ?_)
 refine Y.j (aT rfl .z) .n ?_
 exact⟨by first |(rw [decide_eq_true (fZ (k:=k) (by omega) hallk)];done),rfl⟩

end Go.Proofs.YtmejbfmhaoilmaaGreat

/- What is proved: contracts of functions, one a function. No condition. -/
import Derived.Test.YtmejbfmhaoilmaaGreatBase1
import Derived.Test.YtmejbfmhaoilmaaGreatW2
namespace Go.Proofs.YtmejbfmhaoilmaaGreat
open Go Go.RowKit
set_option linter.unusedVariables false
set_option linter.unusedSimpArgs false
set_option maxHeartbeats 1000000
set_option maxRecDepth 20000
theorem aLs {w0:World}{S0:Bs}{x:aF}{ag:List Value} (h0:bD.ro w0 (FF w0 S0) x ag):
    Calls Tryz.prog 130 #[.agg ag.toArray] w0 (aJ w0 S0 (fun r l=>r= .int .i64 (bV x)∧l= [])):=by
 obtain⟨ap,aq,rfl,aa,ab⟩:=cK h0
 obtain⟨ac,ad,rfl,ah,ai,aj,ak⟩:=aH aa
 obtain⟨ae,af,rfl,al,am,an,ao⟩:=aH ab
 refine Y.enter (N:=50) Tryz.func130 rfl rfl (by simp) [(0,.agg #[.int .i64 x.kind,.int .i64 x.links,.int .i64 x.size,.slice ac x.blocks.length ad,.slice ae x.ents.length af])] (by simp) (l0:= []) trivial ?_
 refine Y.seq (Y.region ?_)
 refine Y.el rfl (fT (cs:= [.int .i64 x.kind,.int .i64 x.links,.int .i64 x.size,.slice ac x.blocks.length ad,.slice ae x.ents.length af]) (n:=5) rfl (.t .z) rfl rfl) ?_
 rintro _ _ ⟨g3,rfl,rfl⟩
 refine Y.ql rfl (aA rfl .c) (Y.nt (Y.seq (Y.region (Y.fa rfl .g1 gC (Y.ld rfl cF .z .z (Y.ql rfl (bZ rfl (.t .z) .c) (Y.mv rfl .z ?_)))))))
 refine Y.al .z (fun g4=> ?_) (fun g4=> ?_)
 refine Y.qg rfl rfl .z rfl rfl rfl (aK rfl (.t .g5) (fun _=>hX _ _)) ?_
 refine Y.qg rfl rfl .g1 rfl rfl rfl (aL rfl cF (.t .z) (WS.g .z rfl)) ?_
 refine Y.qg rfl rfl .g2 rfl rfl rfl (bZ rfl (.t .z) .c) ?_
 refine Y.ql rfl (bO rfl (.t .g3) (.t .z)) (Y.mv rfl .z ?_)
 refine Y.al .z (fun g5=> ?_) (fun g5=> ?_)
 refine Y.qg rfl rfl .z rfl rfl rfl (aK rfl (.t .g10) (fun _=>dI _ _)) ?_
 refine Y.qg rfl rfl .g1 rfl rfl rfl (aL rfl fA (.t .z) (WS.g .z rfl)) ?_
 refine Y.qg rfl rfl .g2 rfl rfl rfl (bM rfl eQ (.t .z)) ?_
 refine Y.qg rfl rfl .g3 rfl rfl rfl (bZ rfl (.t .z) .c) ?_
 refine Y.ql rfl (bO rfl (.t .g4) (.t .z)) (Y.as rfl .z (Y.nt (Y.seq (Y.region (Y.fa rfl .g16 bE (Y.ld rfl dP .z .z (Y.ql rfl (bM rfl cZ (.t .z)) ?_)))))))
 refine Y.ql rfl (bZ rfl (.t .z) .c) (Y.as rfl .z (Y.nt (Y.seq (Y.block (Y.seq (Y.seq (Y.region ?_)))))))
 refine Y.fa rfl (.s16 .g5) cV (Y.ld rfl cF .z .z ?_)
 refine Y.cl rfl rfl Tryz.func84 rfl rfl (dX (.t .z) .c .c) .n (fun _ _ hs tr=>yY _ _ _) ?_
 rintro _ _ ⟨rfl,rfl⟩
 refine Y.m .n ?_
 refine Y.ql rfl (fN rfl (.t .z)) (Y.as rfl .z (Y.nt ?_))
 refine Y.ad (.t .z) (fun b6=> ?_) (fun b6=> ?_)
 refine Y.skip (Y.g ?_)
 refine Y.ad (.t .z) (fun b7=> ?_) (fun b7=> ?_)
 refine Y.seq (Y.region (Y.er (.s16 .g9) (Y.ql rfl (aA rfl .c) (Y.nt (Y.ret (Y.y (Y.r ?_)))))))
 refine Y.i (aY rfl .z) .n ?_
 exact⟨by first |(rw [cR (by assumption)];done) |(rw [cS (by omega)];done) |(rw [cL (by omega) (by omega)];done) |(rw [cT (by assumption) (by omega) (by omega) (by omega)];done) |(rw [cJ (by omega) (by omega)];done) |(rw [cO (by omega) (by omega) (by omega)];done),rfl⟩
 refine Y.seq (Y.region (Y.fa rfl (.s16 .g10) cV (Y.ld rfl cF .z .z (Y.ql rfl (bZ rfl (.t .z) .c) (Y.as rfl .z (Y.nt ?_))))))
 refine Y.u (.t .z) (fun b8=> ?_) (fun b8=> ?_)
 refine Y.seq (Y.region (Y.ql rfl (qW rfl fG (.t (.s16 .g14)) .z aU) ?_))
 refine Y.cl rfl rfl Tryz.func153 rfl rfl (bT (.t .z)) .n (fun _ _ hs tr=>zI (hP x (tr.ctx aa) (tr.ctx ab))) ?_
 rintro _ _ ⟨rfl,rfl⟩
 refine Y.m .n ?_
 refine Y.er (.s16 .g15) (Y.as rfl .z (Y.nt (Y.ret (Y.y (Y.r ?_)))))
 refine Y.i (aY rfl .z) .n ?_
 exact⟨by first |(rw [cR (by assumption)];done) |(rw [cS (by omega)];done) |(rw [cL (by omega) (by omega)];done) |(rw [cT (by assumption) (by omega) (by omega) (by omega)];done) |(rw [cJ (by omega) (by omega)];done) |(rw [cO (by omega) (by omega) (by omega)];done),rfl⟩
 refine Y.skip (Y.ac (Y.g (Y.seq (Y.region (Y.ql rfl (qW rfl fG (.t (.s16 .g14)) .z aU) ?_)))))
 refine Y.cl rfl rfl Tryz.func154 rfl rfl (bT (.t .z)) .n (fun _ _ hs tr=>aB4 (hP x (tr.ctx aa) (tr.ctx ab))) ?_
 rintro _ _ ⟨rfl,rfl⟩
 refine Y.m .n ?_
 refine Y.er (.s16 .g15) (Y.as rfl .z (Y.nt (Y.ret ?_)))
 refine Y.i (aY rfl .z) .n ?_
 exact⟨by first |(rw [cR (by assumption)];done) |(rw [cS (by omega)];done) |(rw [cL (by omega) (by omega)];done) |(rw [cT (by assumption) (by omega) (by omega) (by omega)];done) |(rw [cJ (by omega) (by omega)];done) |(rw [cO (by omega) (by omega) (by omega)];done),rfl⟩
 refine Y.seq (Y.region (Y.fa rfl (.s16 .g10) cV (Y.ld rfl cF .z .z (Y.ql rfl (cU rfl (.t .z) .c) (Y.mv rfl .z ?_)))))
 refine Y.ap .z (fun g9=> ?_) (fun g9=> ?_)
 refine Y.qg rfl rfl .z rfl rfl rfl (aV rfl (.t .g14)) ?_
 refine Y.qg rfl rfl .g1 rfl rfl rfl (fN rfl (.t .z)) ?_
 refine Y.ql rfl (bO rfl (.t .g2) (.t .z)) (Y.er .g7 (Y.as rfl .z (Y.nt ?_)))
 refine Y.ad (.t .z) (fun ar=> ?_) (fun ar=> ?_)
 refine Y.skip (Y.g ?_)
 refine Y.ad (.t .z) (fun au=> ?_) (fun au=> ?_)
 refine Y.seq (Y.region (Y.er (.s16 .g16) (Y.ql rfl (aA rfl .c) (Y.nt (Y.ret (Y.y (Y.r ?_)))))))
 refine Y.i (aY rfl .z) .n ?_
 exact⟨by first |(rw [cR (by assumption)];done) |(rw [cS (by omega)];done) |(rw [cL (by omega) (by omega)];done) |(rw [cT (by assumption) (by omega) (by omega) (by omega)];done) |(rw [cJ (by omega) (by omega)];done) |(rw [cO (by omega) (by omega) (by omega)];done),rfl⟩
 exfalso;first | omega | contradiction
 refine Y.region (Y.fa rfl (.s16 (.s16 .g1)) cV (Y.ld rfl cF .z .z (Y.ql rfl (cU rfl (.t .z) .c) (Y.mv rfl .z ?_))))
 refine Y.ap .z (fun g12=> ?_) (fun g12=> ?_)
 refine Y.qg rfl rfl .z rfl rfl rfl (aV rfl (.t .g16)) ?_
 refine Y.qg rfl rfl .g1 rfl rfl rfl (fN rfl (.t .z)) ?_
 refine Y.ql rfl (bO rfl (.t .g2) (.t .z)) (Y.er .g7 (Y.as rfl .z (Y.nt ?_)))
 refine Y.ad (.t .z) (fun av=> ?_) (fun av=> ?_)
 refine Y.seq (Y.region (Y.er (.s16 (.s16 .g7)) (Y.ql rfl (aA rfl .c) (Y.nt (Y.ret (Y.y (Y.r ?_)))))))
 refine Y.i (aY rfl .z) .n ?_
 exact⟨by first |(rw [cR (by assumption)];done) |(rw [cS (by omega)];done) |(rw [cL (by omega) (by omega)];done) |(rw [cT (by assumption) (by omega) (by omega) (by omega)];done) |(rw [cJ (by omega) (by omega)];done) |(rw [cO (by omega) (by omega) (by omega)];done),rfl⟩
 refine Y.seq (Y.region (Y.fa rfl (.s16 (.s16 .g8)) cV (Y.ld rfl cF .z .z (Y.ql rfl (bZ rfl (.t .z) .c) (Y.as rfl .z (Y.nt ?_))))))
 refine Y.u (.t .z) (fun aw=> ?_) (fun aw=> ?_)
 exfalso;first | omega | contradiction
 refine Y.skip (Y.ac (Y.g (Y.seq (Y.region (Y.ql rfl (qW rfl fG (.t (.s16 (.s16 .g12))) .z aU) ?_)))))
 refine Y.cl rfl rfl Tryz.func154 rfl rfl (bT (.t .z)) .n (fun _ _ hs tr=>aB4 (hP x (tr.ctx aa) (tr.ctx ab))) ?_
 rintro _ _ ⟨rfl,rfl⟩
 refine Y.m .n ?_
 refine Y.er (.s16 (.s16 .g13)) (Y.as rfl .z (Y.nt (Y.ret ?_)))
 refine Y.i (aY rfl .z) .n ?_
 exact⟨by first |(rw [cR (by assumption)];done) |(rw [cS (by omega)];done) |(rw [cL (by omega) (by omega)];done) |(rw [cT (by assumption) (by omega) (by omega) (by omega)];done) |(rw [cJ (by omega) (by omega)];done) |(rw [cO (by omega) (by omega) (by omega)];done),rfl⟩
 refine Y.j rfl rfl .z rfl rfl (by decide) rfl ?_
 refine Y.j rfl rfl .g1 rfl rfl (by decide) rfl ?_
 refine Y.ql rfl (bW rfl (.t .g2) .c) (Y.er .g7 (Y.as rfl .z (Y.nt ?_)))
 refine Y.ar (.t .z) ?_
 refine Y.seq (Y.region (Y.fa rfl (.s16 (.s16 .g8)) cV (Y.ld rfl cF .z .z (Y.ql rfl (bZ rfl (.t .z) .c) (Y.as rfl .z (Y.nt ?_))))))
 refine Y.u (.t .z) (fun ax=> ?_) (fun ax=> ?_)
 exfalso;first | omega | contradiction
 refine Y.skip (Y.ac (Y.g (Y.seq (Y.region (Y.ql rfl (qW rfl fG (.t (.s16 (.s16 .g12))) .z aU) ?_)))))
 refine Y.cl rfl rfl Tryz.func154 rfl rfl (bT (.t .z)) .n (fun _ _ hs tr=>aB4 (hP x (tr.ctx aa) (tr.ctx ab))) ?_
 rintro _ _ ⟨rfl,rfl⟩
 refine Y.m .n ?_
 refine Y.er (.s16 (.s16 .g13)) (Y.as rfl .z (Y.nt (Y.ret ?_)))
 refine Y.i (aY rfl .z) .n ?_
 exact⟨by first |(rw [cR (by assumption)];done) |(rw [cS (by omega)];done) |(rw [cL (by omega) (by omega)];done) |(rw [cT (by assumption) (by omega) (by omega) (by omega)];done) |(rw [cJ (by omega) (by omega)];done) |(rw [cO (by omega) (by omega) (by omega)];done),rfl⟩
 refine Y.j rfl rfl .z rfl rfl (by decide) rfl ?_
 refine Y.j rfl rfl .g1 rfl rfl (by decide) rfl ?_
 refine Y.ql rfl (bW rfl (.t .g2) .c) (Y.er .g7 (Y.as rfl .z (Y.nt ?_)))
 refine Y.ar (.t .z) ?_
 refine Y.region (Y.fa rfl (.s16 (.s16 .g1)) cV (Y.ld rfl cF .z .z (Y.ql rfl (cU rfl (.t .z) .c) (Y.mv rfl .z ?_))))
 refine Y.ap .z (fun g16=> ?_) (fun g16=> ?_)
 refine Y.qg rfl rfl .z rfl rfl rfl (aV rfl (.t .g16)) ?_
 refine Y.qg rfl rfl .g1 rfl rfl rfl (fN rfl (.t .z)) ?_
 refine Y.ql rfl (bO rfl (.t .g2) (.t .z)) (Y.er .g7 (Y.as rfl .z (Y.nt ?_)))
 refine Y.ad (.t .z) (fun ay=> ?_) (fun ay=> ?_)
 refine Y.seq (Y.region (Y.er (.s16 (.s16 .g7)) (Y.ql rfl (aA rfl .c) (Y.nt (Y.ret (Y.y (Y.r ?_)))))))
 refine Y.i (aY rfl .z) .n ?_
 exact⟨by first |(rw [cR (by assumption)];done) |(rw [cS (by omega)];done) |(rw [cL (by omega) (by omega)];done) |(rw [cT (by assumption) (by omega) (by omega) (by omega)];done) |(rw [cJ (by omega) (by omega)];done) |(rw [cO (by omega) (by omega) (by omega)];done),rfl⟩
 refine Y.seq (Y.region (Y.fa rfl (.s16 (.s16 .g8)) cV (Y.ld rfl cF .z .z (Y.ql rfl (bZ rfl (.t .z) .c) (Y.as rfl .z (Y.nt ?_))))))
 refine Y.u (.t .z) (fun az=> ?_) (fun az=> ?_)
 refine Y.seq (Y.region (Y.ql rfl (qW rfl fG (.t (.s16 (.s16 .g12))) .z aU) ?_))
 refine Y.cl rfl rfl Tryz.func153 rfl rfl (bT (.t .z)) .n (fun _ _ hs tr=>zI (hP x (tr.ctx aa) (tr.ctx ab))) ?_
 rintro _ _ ⟨rfl,rfl⟩
 refine Y.m .n ?_
 refine Y.er (.s16 (.s16 .g13)) (Y.as rfl .z (Y.nt (Y.ret (Y.y (Y.r ?_)))))
 refine Y.i (aY rfl .z) .n ?_
 exact⟨by first |(rw [cR (by assumption)];done) |(rw [cS (by omega)];done) |(rw [cL (by omega) (by omega)];done) |(rw [cT (by assumption) (by omega) (by omega) (by omega)];done) |(rw [cJ (by omega) (by omega)];done) |(rw [cO (by omega) (by omega) (by omega)];done),rfl⟩
 exfalso;first | omega | contradiction
 exfalso;first | omega | contradiction
 refine Y.j rfl rfl .z rfl rfl (by decide) rfl ?_
 refine Y.j rfl rfl .g1 rfl rfl (by decide) rfl ?_
 refine Y.j rfl rfl .g2 rfl rfl (by decide) rfl ?_
 refine Y.j rfl rfl .g3 rfl rfl (by decide) rfl ?_
 refine Y.ql rfl (bW rfl (.t .g4) .c) (Y.as rfl .z (Y.nt (Y.seq (Y.region (Y.fa rfl .g16 bE (Y.ld rfl dP .z .z (Y.ql rfl (bM rfl cZ (.t .z)) ?_)))))))
 refine Y.ql rfl (bZ rfl (.t .z) .c) (Y.as rfl .z (Y.nt (Y.seq (Y.block (Y.seq (Y.seq (Y.region ?_)))))))
 refine Y.fa rfl (.s16 .g5) cV (Y.ld rfl cF .z .z ?_)
 refine Y.cl rfl rfl Tryz.func84 rfl rfl (dX (.t .z) .c .c) .n (fun _ _ hs tr=>yY _ _ _) ?_
 rintro _ _ ⟨rfl,rfl⟩
 refine Y.m .n ?_
 refine Y.ql rfl (fN rfl (.t .z)) (Y.as rfl .z (Y.nt ?_))
 refine Y.ad (.t .z) (fun a0=> ?_) (fun a0=> ?_)
 refine Y.skip (Y.g ?_)
 refine Y.ad (.t .z) (fun a1=> ?_) (fun a1=> ?_)
 refine Y.seq (Y.region (Y.er (.s16 .g9) (Y.ql rfl (aA rfl .c) (Y.nt (Y.ret (Y.y (Y.r ?_)))))))
 refine Y.i (aY rfl .z) .n ?_
 exact⟨by first |(rw [cR (by assumption)];done) |(rw [cS (by omega)];done) |(rw [cL (by omega) (by omega)];done) |(rw [cT (by assumption) (by omega) (by omega) (by omega)];done) |(rw [cJ (by omega) (by omega)];done) |(rw [cO (by omega) (by omega) (by omega)];done),rfl⟩
 refine Y.seq (Y.region (Y.fa rfl (.s16 .g10) cV (Y.ld rfl cF .z .z (Y.ql rfl (bZ rfl (.t .z) .c) (Y.as rfl .z (Y.nt ?_))))))
 refine Y.u (.t .z) (fun a2=> ?_) (fun a2=> ?_)
 refine Y.seq (Y.region (Y.ql rfl (qW rfl fG (.t (.s16 .g14)) .z aU) ?_))
 refine Y.cl rfl rfl Tryz.func153 rfl rfl (bT (.t .z)) .n (fun _ _ hs tr=>zI (hP x (tr.ctx aa) (tr.ctx ab))) ?_
 rintro _ _ ⟨rfl,rfl⟩
 refine Y.m .n ?_
 refine Y.er (.s16 .g15) (Y.as rfl .z (Y.nt (Y.ret (Y.y (Y.r ?_)))))
 refine Y.i (aY rfl .z) .n ?_
 exact⟨by first |(rw [cR (by assumption)];done) |(rw [cS (by omega)];done) |(rw [cL (by omega) (by omega)];done) |(rw [cT (by assumption) (by omega) (by omega) (by omega)];done) |(rw [cJ (by omega) (by omega)];done) |(rw [cO (by omega) (by omega) (by omega)];done),rfl⟩
 refine Y.skip (Y.ac (Y.g (Y.seq (Y.region (Y.ql rfl (qW rfl fG (.t (.s16 .g14)) .z aU) ?_)))))
 refine Y.cl rfl rfl Tryz.func154 rfl rfl (bT (.t .z)) .n (fun _ _ hs tr=>aB4 (hP x (tr.ctx aa) (tr.ctx ab))) ?_
 rintro _ _ ⟨rfl,rfl⟩
 refine Y.m .n ?_
 refine Y.er (.s16 .g15) (Y.as rfl .z (Y.nt (Y.ret ?_)))
 refine Y.i (aY rfl .z) .n ?_
 exact⟨by first |(rw [cR (by assumption)];done) |(rw [cS (by omega)];done) |(rw [cL (by omega) (by omega)];done) |(rw [cT (by assumption) (by omega) (by omega) (by omega)];done) |(rw [cJ (by omega) (by omega)];done) |(rw [cO (by omega) (by omega) (by omega)];done),rfl⟩
 refine Y.seq (Y.region (Y.fa rfl (.s16 .g10) cV (Y.ld rfl cF .z .z (Y.ql rfl (cU rfl (.t .z) .c) (Y.mv rfl .z ?_)))))
 refine Y.ap .z (fun g22=> ?_) (fun g22=> ?_)
 refine Y.qg rfl rfl .z rfl rfl rfl (aV rfl (.t .g14)) ?_
 refine Y.qg rfl rfl .g1 rfl rfl rfl (fN rfl (.t .z)) ?_
 refine Y.ql rfl (bO rfl (.t .g2) (.t .z)) (Y.er .g7 (Y.as rfl .z (Y.nt ?_)))
 refine Y.ao (.t .z) ?_
 refine Y.skip (Y.g ?_)
 refine Y.ao (.t .z) ?_
 refine Y.seq (Y.region (Y.er (.s16 .g16) (Y.ql rfl (aA rfl .c) (Y.nt (Y.ret (Y.y (Y.r ?_)))))))
 refine Y.i (aY rfl .z) .n ?_
 exact⟨by first |(rw [cR (by assumption)];done) |(rw [cS (by omega)];done) |(rw [cL (by omega) (by omega)];done) |(rw [cT (by assumption) (by omega) (by omega) (by omega)];done) |(rw [cJ (by omega) (by omega)];done) |(rw [cO (by omega) (by omega) (by omega)];done),rfl⟩
 refine Y.j rfl rfl .z rfl rfl (by decide) rfl ?_
 refine Y.j rfl rfl .g1 rfl rfl (by decide) rfl ?_
 refine Y.ql rfl (bW rfl (.t .g2) .c) (Y.er .g7 (Y.as rfl .z (Y.nt ?_)))
 refine Y.ar (.t .z) ?_
 refine Y.region (Y.fa rfl (.s16 (.s16 .g1)) cV (Y.ld rfl cF .z .z (Y.ql rfl (cU rfl (.t .z) .c) (Y.mv rfl .z ?_))))
 refine Y.ap .z (fun g23=> ?_) (fun g23=> ?_)
 refine Y.qg rfl rfl .z rfl rfl rfl (aV rfl (.t .g16)) ?_
 refine Y.qg rfl rfl .g1 rfl rfl rfl (fN rfl (.t .z)) ?_
 refine Y.ql rfl (bO rfl (.t .g2) (.t .z)) (Y.er .g7 (Y.as rfl .z (Y.nt ?_)))
 refine Y.ad (.t .z) (fun a3=> ?_) (fun a3=> ?_)
 refine Y.seq (Y.region (Y.er (.s16 (.s16 .g7)) (Y.ql rfl (aA rfl .c) (Y.nt (Y.ret (Y.y (Y.r ?_)))))))
 refine Y.i (aY rfl .z) .n ?_
 exact⟨by first |(rw [cR (by assumption)];done) |(rw [cS (by omega)];done) |(rw [cL (by omega) (by omega)];done) |(rw [cT (by assumption) (by omega) (by omega) (by omega)];done) |(rw [cJ (by omega) (by omega)];done) |(rw [cO (by omega) (by omega) (by omega)];done),rfl⟩
 refine Y.seq (Y.region (Y.fa rfl (.s16 (.s16 .g8)) cV (Y.ld rfl cF .z .z (Y.ql rfl (bZ rfl (.t .z) .c) (Y.as rfl .z (Y.nt ?_))))))
 refine Y.u (.t .z) (fun a4=> ?_) (fun a4=> ?_)
 refine Y.seq (Y.region (Y.ql rfl (qW rfl fG (.t (.s16 (.s16 .g12))) .z aU) ?_))
 refine Y.cl rfl rfl Tryz.func153 rfl rfl (bT (.t .z)) .n (fun _ _ hs tr=>zI (hP x (tr.ctx aa) (tr.ctx ab))) ?_
 rintro _ _ ⟨rfl,rfl⟩
 refine Y.m .n ?_
 refine Y.er (.s16 (.s16 .g13)) (Y.as rfl .z (Y.nt (Y.ret (Y.y (Y.r ?_)))))
 refine Y.i (aY rfl .z) .n ?_
 exact⟨by first |(rw [cR (by assumption)];done) |(rw [cS (by omega)];done) |(rw [cL (by omega) (by omega)];done) |(rw [cT (by assumption) (by omega) (by omega) (by omega)];done) |(rw [cJ (by omega) (by omega)];done) |(rw [cO (by omega) (by omega) (by omega)];done),rfl⟩
 exfalso;first | omega | contradiction
 exfalso;first | omega | contradiction
 refine Y.j rfl rfl .z rfl rfl (by decide) rfl ?_
 refine Y.j rfl rfl .g1 rfl rfl (by decide) rfl ?_
 refine Y.j rfl rfl .g2 rfl rfl (by decide) rfl ?_
 refine Y.ql rfl (bW rfl (.t .g3) .c) (Y.mv rfl .z ?_)
 refine Y.j rfl rfl .z rfl rfl (by decide) rfl ?_
 refine Y.j rfl rfl .g1 rfl rfl (by decide) rfl ?_
 refine Y.j rfl rfl .g2 rfl rfl (by decide) rfl ?_
 refine Y.j rfl rfl .g3 rfl rfl (by decide) rfl ?_
 refine Y.ql rfl (bW rfl (.t .g4) .c) (Y.as rfl .z (Y.nt (Y.seq (Y.region (Y.fa rfl .g16 bE (Y.ld rfl dP .z .z (Y.ql rfl (bM rfl cZ (.t .z)) ?_)))))))
 refine Y.ql rfl (bZ rfl (.t .z) .c) (Y.as rfl .z (Y.nt (Y.seq (Y.block (Y.seq (Y.seq (Y.region ?_)))))))
 refine Y.fa rfl (.s16 .g5) cV (Y.ld rfl cF .z .z ?_)
 refine Y.cl rfl rfl Tryz.func84 rfl rfl (dX (.t .z) .c .c) .n (fun _ _ hs tr=>yY _ _ _) ?_
 rintro _ _ ⟨rfl,rfl⟩
 refine Y.m .n ?_
 refine Y.ql rfl (fN rfl (.t .z)) (Y.as rfl .z (Y.nt ?_))
 refine Y.ad (.t .z) (fun a5=> ?_) (fun a5=> ?_)
 refine Y.skip (Y.g ?_)
 refine Y.ad (.t .z) (fun a6=> ?_) (fun a6=> ?_)
 refine Y.seq (Y.region (Y.er (.s16 .g9) (Y.ql rfl (aA rfl .c) (Y.nt (Y.ret (Y.y (Y.r ?_)))))))
 refine Y.i (aY rfl .z) .n ?_
 exact⟨by first |(rw [cR (by assumption)];done) |(rw [cS (by omega)];done) |(rw [cL (by omega) (by omega)];done) |(rw [cT (by assumption) (by omega) (by omega) (by omega)];done) |(rw [cJ (by omega) (by omega)];done) |(rw [cO (by omega) (by omega) (by omega)];done),rfl⟩
 refine Y.seq (Y.region (Y.fa rfl (.s16 .g10) cV (Y.ld rfl cF .z .z (Y.ql rfl (bZ rfl (.t .z) .c) (Y.as rfl .z (Y.nt ?_))))))
 refine Y.u (.t .z) (fun a7=> ?_) (fun a7=> ?_)
 refine Y.seq (Y.region (Y.ql rfl (qW rfl fG (.t (.s16 .g14)) .z aU) ?_))
 refine Y.cl rfl rfl Tryz.func153 rfl rfl (bT (.t .z)) .n (fun _ _ hs tr=>zI (hP x (tr.ctx aa) (tr.ctx ab))) ?_
 rintro _ _ ⟨rfl,rfl⟩
 refine Y.m .n ?_
 refine Y.er (.s16 .g15) (Y.as rfl .z (Y.nt (Y.ret (Y.y (Y.r ?_)))))
 refine Y.i (aY rfl .z) .n ?_
 exact⟨by first |(rw [cR (by assumption)];done) |(rw [cS (by omega)];done) |(rw [cL (by omega) (by omega)];done) |(rw [cT (by assumption) (by omega) (by omega) (by omega)];done) |(rw [cJ (by omega) (by omega)];done) |(rw [cO (by omega) (by omega) (by omega)];done),rfl⟩
 refine Y.skip (Y.ac (Y.g (Y.seq (Y.region (Y.ql rfl (qW rfl fG (.t (.s16 .g14)) .z aU) ?_)))))
 refine Y.cl rfl rfl Tryz.func154 rfl rfl (bT (.t .z)) .n (fun _ _ hs tr=>aB4 (hP x (tr.ctx aa) (tr.ctx ab))) ?_
 rintro _ _ ⟨rfl,rfl⟩
 refine Y.m .n ?_
 refine Y.er (.s16 .g15) (Y.as rfl .z (Y.nt (Y.ret ?_)))
 refine Y.i (aY rfl .z) .n ?_
 exact⟨by first |(rw [cR (by assumption)];done) |(rw [cS (by omega)];done) |(rw [cL (by omega) (by omega)];done) |(rw [cT (by assumption) (by omega) (by omega) (by omega)];done) |(rw [cJ (by omega) (by omega)];done) |(rw [cO (by omega) (by omega) (by omega)];done),rfl⟩
 refine Y.seq (Y.region (Y.fa rfl (.s16 .g10) cV (Y.ld rfl cF .z .z (Y.ql rfl (cU rfl (.t .z) .c) (Y.mv rfl .z ?_)))))
 refine Y.ap .z (fun g29=> ?_) (fun g29=> ?_)
 refine Y.qg rfl rfl .z rfl rfl rfl (aV rfl (.t .g14)) ?_
 refine Y.qg rfl rfl .g1 rfl rfl rfl (fN rfl (.t .z)) ?_
 refine Y.ql rfl (bO rfl (.t .g2) (.t .z)) (Y.er .g7 (Y.as rfl .z (Y.nt ?_)))
 refine Y.ao (.t .z) ?_
 refine Y.skip (Y.g ?_)
 refine Y.ao (.t .z) ?_
 refine Y.seq (Y.region (Y.er (.s16 .g16) (Y.ql rfl (aA rfl .c) (Y.nt (Y.ret (Y.y (Y.r ?_)))))))
 refine Y.i (aY rfl .z) .n ?_
 exact⟨by first |(rw [cR (by assumption)];done) |(rw [cS (by omega)];done) |(rw [cL (by omega) (by omega)];done) |(rw [cT (by assumption) (by omega) (by omega) (by omega)];done) |(rw [cJ (by omega) (by omega)];done) |(rw [cO (by omega) (by omega) (by omega)];done),rfl⟩
 refine Y.j rfl rfl .z rfl rfl (by decide) rfl ?_
 refine Y.j rfl rfl .g1 rfl rfl (by decide) rfl ?_
 refine Y.ql rfl (bW rfl (.t .g2) .c) (Y.er .g7 (Y.as rfl .z (Y.nt ?_)))
 refine Y.ar (.t .z) ?_
 refine Y.region (Y.fa rfl (.s16 (.s16 .g1)) cV (Y.ld rfl cF .z .z (Y.ql rfl (cU rfl (.t .z) .c) (Y.mv rfl .z ?_))))
 refine Y.ap .z (fun g30=> ?_) (fun g30=> ?_)
 refine Y.qg rfl rfl .z rfl rfl rfl (aV rfl (.t .g16)) ?_
 refine Y.qg rfl rfl .g1 rfl rfl rfl (fN rfl (.t .z)) ?_
 refine Y.ql rfl (bO rfl (.t .g2) (.t .z)) (Y.er .g7 (Y.as rfl .z (Y.nt ?_)))
 refine Y.ad (.t .z) (fun a8=> ?_) (fun a8=> ?_)
 refine Y.seq (Y.region (Y.er (.s16 (.s16 .g7)) (Y.ql rfl (aA rfl .c) (Y.nt (Y.ret (Y.y (Y.r ?_)))))))
 refine Y.i (aY rfl .z) .n ?_
 exact⟨by first |(rw [cR (by assumption)];done) |(rw [cS (by omega)];done) |(rw [cL (by omega) (by omega)];done) |(rw [cT (by assumption) (by omega) (by omega) (by omega)];done) |(rw [cJ (by omega) (by omega)];done) |(rw [cO (by omega) (by omega) (by omega)];done),rfl⟩
 refine Y.seq (Y.region (Y.fa rfl (.s16 (.s16 .g8)) cV (Y.ld rfl cF .z .z (Y.ql rfl (bZ rfl (.t .z) .c) (Y.as rfl .z (Y.nt ?_))))))
 refine Y.u (.t .z) (fun a9=> ?_) (fun a9=> ?_)
 refine Y.seq (Y.region (Y.ql rfl (qW rfl fG (.t (.s16 (.s16 .g12))) .z aU) ?_))
 refine Y.cl rfl rfl Tryz.func153 rfl rfl (bT (.t .z)) .n (fun _ _ hs tr=>zI (hP x (tr.ctx aa) (tr.ctx ab))) ?_
 rintro _ _ ⟨rfl,rfl⟩
 refine Y.m .n ?_
 refine Y.er (.s16 (.s16 .g13)) (Y.as rfl .z (Y.nt (Y.ret (Y.y (Y.r ?_)))))
 refine Y.i (aY rfl .z) .n ?_
 exact⟨by first |(rw [cR (by assumption)];done) |(rw [cS (by omega)];done) |(rw [cL (by omega) (by omega)];done) |(rw [cT (by assumption) (by omega) (by omega) (by omega)];done) |(rw [cJ (by omega) (by omega)];done) |(rw [cO (by omega) (by omega) (by omega)];done),rfl⟩
 exfalso;first | omega | contradiction
 exfalso;first | omega | contradiction

theorem aHb {w0:World}{S0:Bs}{x:aF}{ac:Addr} (h0:gP bD w0 (FF w0 S0) ac x):
    Calls Tryz.prog 135 #[.pointer (some ac)] w0 (aJ w0 S0 (fun r l=>r= .int .i64 (bV x)∧l= [])):=by
 obtain⟨a2,aa,an,ab⟩:=id h0
 obtain⟨ao,ap,rfl,ad,ae⟩:=cK an
 obtain⟨aq,ar,rfl,af,ag,ah,ai⟩:=aH ad
 obtain⟨au,av,rfl,aj,ak,al,am⟩:=aH ae
 refine Y.enter (N:=63) Tryz.func135 rfl rfl (by simp) [(0,.pointer (some ac))] (by simp) (l0:= []) trivial ?_
 refine Y.seq (Y.region (Y.ql rfl (aA rfl .c) (Y.nt (Y.seq (Y.seq (Y.region (Y.mv rfl .g1 ?_)))))))
 refine Y.nc rfl .z (Y.fa rfl .z cV (Y.le rfl cF .z aa ab ?_))
 refine Y.cl rfl rfl Tryz.func46 rfl rfl (dX (.t .z) .c .c) .n (fun _ _ hs tr=>xL _ _ _) ?_
 rintro _ _ ⟨rfl,rfl⟩
 refine Y.m .n ?_
 refine Y.ql rfl (fN rfl (.t .z)) (Y.nt ?_)
 refine Y.ad (.t .z) (fun b3=> ?_) (fun b3=> ?_)
 refine Y.seq (Y.region (Y.er .g6 (Y.ql rfl (aA rfl .c) (Y.nt (Y.ret (Y.r ?_))))))
 refine Y.i (aY rfl .z) .n ?_
 exact⟨by first |(rw [cR (by assumption)];done) |(rw [cS (by omega)];done) |(rw [cL (by omega) (by omega)];done) |(rw [cT (by assumption) (by omega) (by omega) (by omega)];done) |(rw [cJ (by omega) (by omega)];done) |(rw [cO (by omega) (by omega) (by omega)];done),rfl⟩
 refine Y.skip (Y.g (Y.seq (Y.seq (Y.region (Y.mv rfl .g7 (Y.nc rfl .z (Y.fa rfl .z cV (Y.le rfl cF .z aa ab ?_))))))))
 refine Y.ql rfl (cU rfl (.t .z) .c) (Y.mv rfl .z ?_)
 refine Y.ap .z (fun g4=> ?_) (fun g4=> ?_)
 refine Y.qg rfl rfl .z rfl rfl rfl (aV rfl (.t .g13)) ?_
 refine Y.qg rfl rfl .g1 rfl rfl rfl (eB rfl (.t .z)) ?_
 refine Y.qg rfl rfl .g2 rfl rfl rfl (aK rfl (.t .z) (fun _=>gC _ _)) ?_
 refine Y.qg rfl rfl .g3 rfl rfl rfl (aL rfl cF (.t .z) (WS.el aa ab rfl)) ?_
 refine Y.qg rfl rfl .g4 rfl rfl rfl (cU rfl (.t .z) .c) ?_
 refine Y.qg rfl rfl .g5 rfl rfl rfl (aV rfl (.t .z)) ?_
 refine Y.ap .z (fun g5=> ?_) (fun g5=> ?_)
 refine Y.j rfl rfl .z rfl rfl (by decide) rfl ?_
 refine Y.j rfl rfl .g1 rfl rfl (by decide) rfl ?_
 refine Y.j rfl rfl .g2 rfl rfl (by decide) rfl ?_
 refine Y.j rfl rfl .g3 rfl rfl (by decide) rfl ?_
 refine Y.j rfl rfl .g4 rfl rfl (by decide) rfl ?_
 refine Y.qg rfl rfl .g11 rfl rfl rfl (bO rfl (.t .g5) .c) ?_
 refine Y.qg rfl rfl .g12 rfl rfl rfl (aV rfl (.t .z)) ?_
 refine Y.j rfl rfl .z rfl rfl (by decide) rfl ?_
 refine Y.j rfl rfl .g1 rfl rfl (by decide) rfl ?_
 refine Y.j rfl rfl .g2 rfl rfl (by decide) rfl ?_
 refine Y.j rfl rfl .g3 rfl rfl (by decide) rfl ?_
 refine Y.j rfl rfl .g4 rfl rfl (by decide) rfl ?_
 refine Y.j rfl rfl .g5 rfl rfl (by decide) rfl ?_
 refine Y.qg rfl rfl (.s16 .g3) rfl rfl rfl (bO rfl (.t .g6) .c) ?_
 refine Y.ql rfl (bO rfl (.t (.s16 .g4)) (.t .z)) (Y.mv rfl .z ?_)
 refine Y.j rfl rfl .z rfl rfl (by decide) rfl ?_
 refine Y.j rfl rfl .g1 rfl rfl (by decide) rfl ?_
 refine Y.j rfl rfl .g2 rfl rfl (by decide) rfl ?_
 refine Y.j rfl rfl .g3 rfl rfl (by decide) rfl ?_
 refine Y.j rfl rfl .g4 rfl rfl (by decide) rfl ?_
 refine Y.j rfl rfl .g5 rfl rfl (by decide) rfl ?_
 refine Y.j rfl rfl .z rfl rfl (by decide) rfl ?_
 refine Y.j rfl rfl .g1 rfl rfl (by decide) rfl ?_
 refine Y.j rfl rfl .g2 rfl rfl (by decide) rfl ?_
 refine Y.j rfl rfl .g3 rfl rfl (by decide) rfl ?_
 refine Y.j rfl rfl .g4 rfl rfl (by decide) rfl ?_
 refine Y.j rfl rfl .g5 rfl rfl (by decide) rfl ?_
 refine Y.j rfl rfl .g12 rfl rfl (by decide) rfl ?_
 refine Y.ql rfl (bO rfl (.t .g13) .c) (Y.nt ?_)
 refine Y.ao (.t .z) ?_
 refine Y.seq (Y.region (Y.er (.s16 (.s16 .g16)) (Y.ql rfl (aA rfl .c) (Y.nt (Y.ret (Y.r ?_))))))
 refine Y.i (aY rfl .z) .n ?_
 exact⟨by first |(rw [cR (by assumption)];done) |(rw [cS (by omega)];done) |(rw [cL (by omega) (by omega)];done) |(rw [cT (by assumption) (by omega) (by omega) (by omega)];done) |(rw [cJ (by omega) (by omega)];done) |(rw [cO (by omega) (by omega) (by omega)];done),rfl⟩
 refine Y.qg rfl rfl .z rfl rfl rfl (aV rfl (.t (.s16 .g3))) ?_
 refine Y.qg rfl rfl .g1 rfl rfl rfl (eB rfl (.t .z)) ?_
 refine Y.qg rfl rfl .g2 rfl rfl rfl (aK rfl (.t .z) (fun _=>hX _ _)) ?_
 refine Y.qg rfl rfl .g3 rfl rfl rfl (aL rfl cF (.t .z) (WS.el aa ab rfl)) ?_
 refine Y.qg rfl rfl .g4 rfl rfl rfl (cU rfl (.t .z) .c) ?_
 refine Y.qg rfl rfl .g11 rfl rfl rfl (bW rfl (.t .g5) (.t .z)) ?_
 refine Y.qg rfl rfl .g12 rfl rfl rfl (aV rfl (.t .z)) ?_
 refine Y.ap .z (fun g6=> ?_) (fun g6=> ?_)
 refine Y.j rfl rfl .z rfl rfl (by decide) rfl ?_
 refine Y.j rfl rfl .g1 rfl rfl (by decide) rfl ?_
 refine Y.j rfl rfl .g2 rfl rfl (by decide) rfl ?_
 refine Y.j rfl rfl .g3 rfl rfl (by decide) rfl ?_
 refine Y.j rfl rfl .g4 rfl rfl (by decide) rfl ?_
 refine Y.j rfl rfl .g5 rfl rfl (by decide) rfl ?_
 refine Y.qg rfl rfl (.s16 .g3) rfl rfl rfl (bO rfl (.t .g6) .c) ?_
 refine Y.ql rfl (bO rfl (.t (.s16 .g4)) (.t .z)) (Y.mv rfl .z ?_)
 refine Y.j rfl rfl .z rfl rfl (by decide) rfl ?_
 refine Y.j rfl rfl .g1 rfl rfl (by decide) rfl ?_
 refine Y.j rfl rfl .g2 rfl rfl (by decide) rfl ?_
 refine Y.j rfl rfl .g3 rfl rfl (by decide) rfl ?_
 refine Y.j rfl rfl .g4 rfl rfl (by decide) rfl ?_
 refine Y.j rfl rfl .g5 rfl rfl (by decide) rfl ?_
 refine Y.j rfl rfl .z rfl rfl (by decide) rfl ?_
 refine Y.j rfl rfl .g1 rfl rfl (by decide) rfl ?_
 refine Y.j rfl rfl .g2 rfl rfl (by decide) rfl ?_
 refine Y.j rfl rfl .g3 rfl rfl (by decide) rfl ?_
 refine Y.j rfl rfl .g4 rfl rfl (by decide) rfl ?_
 refine Y.j rfl rfl .g5 rfl rfl (by decide) rfl ?_
 refine Y.j rfl rfl .g12 rfl rfl (by decide) rfl ?_
 refine Y.ql rfl (bO rfl (.t .g13) .c) (Y.nt ?_)
 refine Y.ao (.t .z) ?_
 refine Y.seq (Y.region (Y.er (.s16 (.s16 .g16)) (Y.ql rfl (aA rfl .c) (Y.nt (Y.ret (Y.r ?_))))))
 refine Y.i (aY rfl .z) .n ?_
 exact⟨by first |(rw [cR (by assumption)];done) |(rw [cS (by omega)];done) |(rw [cL (by omega) (by omega)];done) |(rw [cT (by assumption) (by omega) (by omega) (by omega)];done) |(rw [cJ (by omega) (by omega)];done) |(rw [cO (by omega) (by omega) (by omega)];done),rfl⟩
 refine Y.qg rfl rfl .z rfl rfl rfl (aV rfl (.t (.s16 .g10))) ?_
 refine Y.qg rfl rfl .g1 rfl rfl rfl (eB rfl (.t .z)) ?_
 refine Y.qg rfl rfl .g2 rfl rfl rfl (aK rfl (.t .z) (fun _=>dI _ _)) ?_
 refine Y.qg rfl rfl .g3 rfl rfl rfl (aL rfl fA (.t .z) (WS.el aa ab rfl)) ?_
 refine Y.qg rfl rfl .g4 rfl rfl rfl (bM rfl eQ (.t .z)) ?_
 refine Y.qg rfl rfl .g5 rfl rfl rfl (gO rfl (.t .z) .c) ?_
 refine Y.qg rfl rfl (.s16 .g3) rfl rfl rfl (bW rfl (.t .g6) (.t .z)) ?_
 refine Y.ql rfl (bO rfl (.t (.s16 .g4)) (.t .z)) (Y.mv rfl .z ?_)
 refine Y.al .z (fun g7=> ?_) (fun g7=> ?_)
 refine Y.j rfl rfl .z rfl rfl (by decide) rfl ?_
 refine Y.j rfl rfl .g1 rfl rfl (by decide) rfl ?_
 refine Y.j rfl rfl .g2 rfl rfl (by decide) rfl ?_
 refine Y.j rfl rfl .g3 rfl rfl (by decide) rfl ?_
 refine Y.j rfl rfl .g4 rfl rfl (by decide) rfl ?_
 refine Y.j rfl rfl .g5 rfl rfl (by decide) rfl ?_
 refine Y.j rfl rfl .z rfl rfl (by decide) rfl ?_
 refine Y.j rfl rfl .g1 rfl rfl (by decide) rfl ?_
 refine Y.j rfl rfl .g2 rfl rfl (by decide) rfl ?_
 refine Y.j rfl rfl .g3 rfl rfl (by decide) rfl ?_
 refine Y.j rfl rfl .g4 rfl rfl (by decide) rfl ?_
 refine Y.j rfl rfl .g5 rfl rfl (by decide) rfl ?_
 refine Y.j rfl rfl .g12 rfl rfl (by decide) rfl ?_
 refine Y.ql rfl (bO rfl (.t .g13) .c) (Y.nt ?_)
 refine Y.ao (.t .z) ?_
 refine Y.seq (Y.region (Y.er (.s16 (.s16 .g16)) (Y.ql rfl (aA rfl .c) (Y.nt (Y.ret (Y.r ?_))))))
 refine Y.i (aY rfl .z) .n ?_
 exact⟨by first |(rw [cR (by assumption)];done) |(rw [cS (by omega)];done) |(rw [cL (by omega) (by omega)];done) |(rw [cT (by assumption) (by omega) (by omega) (by omega)];done) |(rw [cJ (by omega) (by omega)];done) |(rw [cO (by omega) (by omega) (by omega)];done),rfl⟩
 refine Y.qg rfl rfl .z rfl rfl rfl (aV rfl (.t (.s16 (.s16 .g3)))) ?_
 refine Y.qg rfl rfl .g1 rfl rfl rfl (eB rfl (.t .z)) ?_
 refine Y.qg rfl rfl .g2 rfl rfl rfl (aK rfl (.t .z) (fun _=>cV _ _)) ?_
 refine Y.qg rfl rfl .g3 rfl rfl rfl (aL rfl cF (.t .z) (WS.el aa ab rfl)) ?_
 refine Y.qg rfl rfl .g4 rfl rfl rfl (cU rfl (.t .z) .c) ?_
 refine Y.qg rfl rfl .g5 rfl rfl rfl (aV rfl (.t .z)) ?_
 refine Y.ap .z (fun g8=> ?_) (fun g8=> ?_)
 refine Y.qg rfl rfl .z rfl rfl rfl (aV rfl (.t (.s16 (.s16 .g9)))) ?_
 refine Y.qg rfl rfl .g1 rfl rfl rfl (eB rfl (.t .z)) ?_
 refine Y.qg rfl rfl .g2 rfl rfl rfl (aK rfl (.t .z) (fun _=>bE _ _)) ?_
 refine Y.qg rfl rfl .g3 rfl rfl rfl (aL rfl dP (.t .z) (WS.el aa ab rfl)) ?_
 refine Y.qg rfl rfl .g4 rfl rfl rfl (bM rfl cZ (.t .z)) ?_
 refine Y.qg rfl rfl .g5 rfl rfl rfl (gO rfl (.t .z) .c) ?_
 refine Y.qg rfl rfl .g12 rfl rfl rfl (bO rfl (.t .g6) (.t .z)) ?_
 refine Y.ql rfl (bW rfl (.t .g13) (.t .z)) (Y.nt ?_)
 refine Y.u (.t .z) (fun b9=> ?_) (fun b9=> ?_)
 refine Y.seq (Y.region (Y.er (.s16 (.s16 .g16)) (Y.ql rfl (aA rfl .c) (Y.nt (Y.ret (Y.r ?_))))))
 refine Y.i (aY rfl .z) .n ?_
 exact⟨by first |(rw [cR (by assumption)];done) |(rw [cS (by omega)];done) |(rw [cL (by omega) (by omega)];done) |(rw [cT (by assumption) (by omega) (by omega) (by omega)];done) |(rw [cJ (by omega) (by omega)];done) |(rw [cO (by omega) (by omega) (by omega)];done),rfl⟩
 refine Y.skip (Y.g (Y.seq (Y.seq (Y.region (Y.mv rfl (.s16 (.s16 (.s16 .g1))) (Y.nc rfl .z (Y.fa rfl .z cV (Y.le rfl cF .z aa ab ?_))))))))
 refine Y.nt (Y.block (Y.seq (Y.region (Y.ql rfl (bZ rfl (.t .z) .c) (Y.as rfl .z (Y.nt ?_))))))
 refine Y.u (.t .z) (fun aw=> ?_) (fun aw=> ?_)
 exfalso;first | omega | contradiction
 refine Y.seq (Y.region (Y.ql rfl (bZ rfl (.t .g2) .c) (Y.as rfl .z (Y.nt ?_))))
 refine Y.u (.t .z) (fun ax=> ?_) (fun ax=> ?_)
 exfalso;first | omega | contradiction
 refine Y.skip (Y.ac (Y.g (Y.seq (Y.region (Y.er (.s16 (.s16 (.s16 .g8))) (Y.ql rfl (aA rfl .c) (Y.nt ?_)))))))
 refine Y.ret ?_
 refine Y.i (aY rfl .z) .n ?_
 exact⟨by first |(rw [cR (by assumption)];done) |(rw [cS (by omega)];done) |(rw [cL (by omega) (by omega)];done) |(rw [cT (by assumption) (by omega) (by omega) (by omega)];done) |(rw [cJ (by omega) (by omega)];done) |(rw [cO (by omega) (by omega) (by omega)];done),rfl⟩
 refine Y.j rfl rfl .z rfl rfl (by decide) rfl ?_
 refine Y.j rfl rfl .g1 rfl rfl (by decide) rfl ?_
 refine Y.j rfl rfl .g2 rfl rfl (by decide) rfl ?_
 refine Y.j rfl rfl .g3 rfl rfl (by decide) rfl ?_
 refine Y.j rfl rfl .g4 rfl rfl (by decide) rfl ?_
 refine Y.j rfl rfl .g5 rfl rfl (by decide) rfl ?_
 refine Y.qg rfl rfl .g12 rfl rfl rfl (bW rfl (.t .g6) .c) ?_
 refine Y.ql rfl (bW rfl (.t .g13) (.t .z)) (Y.nt ?_)
 refine Y.ar (.t .z) ?_
 refine Y.skip (Y.g (Y.seq (Y.seq (Y.region (Y.mv rfl (.s16 (.s16 (.s16 .g1))) (Y.nc rfl .z (Y.fa rfl .z cV (Y.le rfl cF .z aa ab ?_))))))))
 refine Y.nt (Y.block (Y.seq (Y.region (Y.ql rfl (bZ rfl (.t .z) .c) (Y.as rfl .z (Y.nt ?_))))))
 refine Y.u (.t .z) (fun ay=> ?_) (fun ay=> ?_)
 exfalso;first | omega | contradiction
 refine Y.seq (Y.region (Y.ql rfl (bZ rfl (.t .g2) .c) (Y.as rfl .z (Y.nt ?_))))
 refine Y.u (.t .z) (fun az=> ?_) (fun az=> ?_)
 refine Y.seq (Y.region (Y.mv rfl (.s16 (.s16 (.s16 .g9))) ?_))
 refine Y.cl rfl rfl Tryz.func163 rfl rfl (bT (.t .z)) .n (fun _ _ hs tr=>aL9 (tr.ctxP h0)) ?_
 rintro _ _ ⟨rfl,rfl⟩
 refine Y.m .n ?_
 refine Y.er (.s16 (.s16 (.s16 .g10))) (Y.as rfl .z (Y.nt (Y.ret (Y.y (Y.r ?_)))))
 refine Y.i (aY rfl .z) .n ?_
 exact⟨by first |(rw [cR (by assumption)];done) |(rw [cS (by omega)];done) |(rw [cL (by omega) (by omega)];done) |(rw [cT (by assumption) (by omega) (by omega) (by omega)];done) |(rw [cJ (by omega) (by omega)];done) |(rw [cO (by omega) (by omega) (by omega)];done),rfl⟩
 exfalso;first | omega | contradiction
 refine Y.j rfl rfl .z rfl rfl (by decide) rfl ?_
 refine Y.j rfl rfl .g1 rfl rfl (by decide) rfl ?_
 refine Y.j rfl rfl .g2 rfl rfl (by decide) rfl ?_
 refine Y.j rfl rfl .g3 rfl rfl (by decide) rfl ?_
 refine Y.j rfl rfl .g4 rfl rfl (by decide) rfl ?_
 refine Y.j rfl rfl .g5 rfl rfl (by decide) rfl ?_
 refine Y.j rfl rfl .z rfl rfl (by decide) rfl ?_
 refine Y.j rfl rfl .g1 rfl rfl (by decide) rfl ?_
 refine Y.j rfl rfl .g2 rfl rfl (by decide) rfl ?_
 refine Y.j rfl rfl .g3 rfl rfl (by decide) rfl ?_
 refine Y.j rfl rfl .g4 rfl rfl (by decide) rfl ?_
 refine Y.j rfl rfl .g11 rfl rfl (by decide) rfl ?_
 refine Y.j rfl rfl .g12 rfl rfl (by decide) rfl ?_
 refine Y.j rfl rfl .z rfl rfl (by decide) rfl ?_
 refine Y.j rfl rfl .g1 rfl rfl (by decide) rfl ?_
 refine Y.j rfl rfl .g2 rfl rfl (by decide) rfl ?_
 refine Y.j rfl rfl .g3 rfl rfl (by decide) rfl ?_
 refine Y.j rfl rfl .g4 rfl rfl (by decide) rfl ?_
 refine Y.j rfl rfl .g5 rfl rfl (by decide) rfl ?_
 refine Y.j rfl rfl (.s16 .g3) rfl rfl (by decide) rfl ?_
 refine Y.ql rfl (bW rfl (.t (.s16 .g4)) .c) (Y.mv rfl .z ?_)
 refine Y.qg rfl rfl .z rfl rfl rfl (aV rfl (.t (.s16 (.s16 .g3)))) ?_
 refine Y.qg rfl rfl .g1 rfl rfl rfl (eB rfl (.t .z)) ?_
 refine Y.qg rfl rfl .g2 rfl rfl rfl (aK rfl (.t .z) (fun _=>cV _ _)) ?_
 refine Y.qg rfl rfl .g3 rfl rfl rfl (aL rfl cF (.t .z) (WS.el aa ab rfl)) ?_
 refine Y.qg rfl rfl .g4 rfl rfl rfl (cU rfl (.t .z) .c) ?_
 refine Y.qg rfl rfl .g5 rfl rfl rfl (aV rfl (.t .z)) ?_
 refine Y.ap .z (fun g14=> ?_) (fun g14=> ?_)
 refine Y.qg rfl rfl .z rfl rfl rfl (aV rfl (.t (.s16 (.s16 .g9)))) ?_
 refine Y.qg rfl rfl .g1 rfl rfl rfl (eB rfl (.t .z)) ?_
 refine Y.qg rfl rfl .g2 rfl rfl rfl (aK rfl (.t .z) (fun _=>bE _ _)) ?_
 refine Y.qg rfl rfl .g3 rfl rfl rfl (aL rfl dP (.t .z) (WS.el aa ab rfl)) ?_
 refine Y.qg rfl rfl .g4 rfl rfl rfl (bM rfl cZ (.t .z)) ?_
 refine Y.qg rfl rfl .g5 rfl rfl rfl (gO rfl (.t .z) .c) ?_
 refine Y.qg rfl rfl .g12 rfl rfl rfl (bO rfl (.t .g6) (.t .z)) ?_
 refine Y.ql rfl (bW rfl (.t .g13) (.t .z)) (Y.nt ?_)
 refine Y.u (.t .z) (fun a0=> ?_) (fun a0=> ?_)
 refine Y.seq (Y.region (Y.er (.s16 (.s16 .g16)) (Y.ql rfl (aA rfl .c) (Y.nt (Y.ret (Y.r ?_))))))
 refine Y.i (aY rfl .z) .n ?_
 exact⟨by first |(rw [cR (by assumption)];done) |(rw [cS (by omega)];done) |(rw [cL (by omega) (by omega)];done) |(rw [cT (by assumption) (by omega) (by omega) (by omega)];done) |(rw [cJ (by omega) (by omega)];done) |(rw [cO (by omega) (by omega) (by omega)];done),rfl⟩
 refine Y.skip (Y.g (Y.seq (Y.seq (Y.region (Y.mv rfl (.s16 (.s16 (.s16 .g1))) (Y.nc rfl .z (Y.fa rfl .z cV (Y.le rfl cF .z aa ab ?_))))))))
 refine Y.nt (Y.block (Y.seq (Y.region (Y.ql rfl (bZ rfl (.t .z) .c) (Y.as rfl .z (Y.nt ?_))))))
 refine Y.u (.t .z) (fun a1=> ?_) (fun a1=> ?_)
 refine Y.seq (Y.region (Y.mv rfl (.s16 (.s16 (.s16 .g7))) ?_))
 refine Y.cl rfl rfl Tryz.func162 rfl rfl (bT (.t .z)) .n (fun _ _ hs tr=>aLe (tr.ctxP h0)) ?_
 rintro _ _ ⟨rfl,rfl⟩
 refine Y.m .n ?_
 refine Y.er (.s16 (.s16 (.s16 .g8))) (Y.as rfl .z (Y.nt (Y.ret (Y.y (Y.r ?_)))))
 refine Y.i (aY rfl .z) .n ?_
 exact⟨by first |(rw [cR (by assumption)];done) |(rw [cS (by omega)];done) |(rw [cL (by omega) (by omega)];done) |(rw [cT (by assumption) (by omega) (by omega) (by omega)];done) |(rw [cJ (by omega) (by omega)];done) |(rw [cO (by omega) (by omega) (by omega)];done),rfl⟩
 exfalso;first | omega | contradiction
 exfalso;first | omega | contradiction

theorem aM2 {w0:World}{S0:Bs}{xs:(List aF)}{v0:Value} (h0:aP.ro w0 (FF w0 S0) xs [v0]):
    Calls Tryz.prog 83 #[v0] w0 (aJ w0 S0 (fun r l=>r= .int .i64 (bJ xs)∧l= [])):=by
 obtain⟨A0,c0,rfl,a1,a2,a3,ay⟩:=aH h0
 refine Y.enter (N:=21) Tryz.func83 rfl rfl (by simp) [(0,.slice A0 xs.length c0)] (by simp) (l0:= []) trivial ?_
 refine Y.seq (Y.region (Y.ql rfl (aA rfl .c) (Y.nt (Y.seq (Y.seq (Y.region (Y.mv rfl .g1 ?_)))))))
 refine Y.ql rfl (bM rfl cE (.t .z)) (Y.ql rfl (gO rfl (.t .z) .c) (Y.nt ?_))
 refine Y.u (.t .z) (fun b2=> ?_) (fun b2=> ?_)
 refine Y.seq (Y.region (Y.er .g3 (Y.ql rfl (aA rfl .c) (Y.nt (Y.ret (Y.r ?_))))))
 refine Y.i (aY rfl .z) .n ?_
 exact⟨by first |(rw [jZ (by assumption)];done) |(rw [iI (by assumption) (fun j y hj hy=>hallk j y (by omega) hy)];done),rfl⟩
 refine Y.skip (Y.g (Y.seq (Y.seq (Y.region (Y.mv rfl .g4 (Y.ql rfl (bM rfl cE (.t .z)) (Y.ql rfl (aV rfl .c) (Y.nil ?_))))))))
 refine Y.g (Y.block ?_)
 refine Y.aj (γ:=Nat) (fun k=> [(11,.int .i64 (k:Int)),(10,.int .i64 (xs.length:Int)),(9,.slice A0 xs.length c0)]) (fun k=> []) (fun k=>k≤xs.length∧∀j y,j<k→xs[j]? =some y→bV y=0) (fun k=>xs.length - k) 0 ⟨Nat.zero_le _,eV (q:=fun _ y=>bV y=0)⟩ (.c .z (.c .g1 (.c .g2 .n))) (fun _ h=>h) ?_
 rintro k ⟨hk,hallk⟩
 refine Y.seq (Y.region (Y.ql rfl (dJ rfl (.t .z) (.t .g1)) (Y.nt (Y.seq ?_))))
 refine Y.u (.t .z) (fun b3=> ?_) (fun b3=> ?_)
 refine Y.skip (Y.g (Y.seq (Y.block (Y.seq (Y.region ?_)))))
 obtain⟨a4,ac,ad⟩:=ay (by omega)
 subst ac
 obtain⟨x5,ae⟩:=aI (xs:=xs) (j:=k) (by omega)
 obtain⟨az,af,ag,ah⟩:=ad.elem ae
 obtain⟨aq,ar,rfl,aa,ab⟩:=cK af
 obtain⟨au,av,rfl,ai,aj,ak,al⟩:=aH aa
 obtain⟨aw,ax,rfl,am,an,ao,ap⟩:=aH ab
 refine Y.ql rfl (aC (j:=k) rfl cE aU (.t .g3) (.t .g1) rfl (by omega)) ?_
 refine Y.ql rfl (qE rfl fG (.t .z) ag ah aU) ?_
 refine Y.el rfl (bL rfl tB rfl rfl) ?_
 rintro _ _ ⟨g9,rfl,rfl⟩
 refine Y.es (aD rfl) rfl (esW rfl (.t .z) (.t .g1) .z aU rfl rfl) ?_
 refine Y.nt (Y.seq (Y.region (Y.ql rfl (qW rfl fG (.t .z) .z aU) ?_)))
 refine Y.cl rfl rfl Tryz.func130 rfl rfl (bT (.t .z)) .n (fun _ _ hs tr=>aLs (hP x5 (tr.ctx aa) (tr.ctx ab))) ?_
 rintro _ _ ⟨rfl,rfl⟩
 refine Y.m .n ?_
 refine Y.as rfl .z (Y.nt (Y.seq (Y.region (Y.mv rfl .z (Y.ql rfl (cU rfl (.t .z) .c) (Y.nt ?_))))))
 refine Y.ad (.t .z) (fun a0=> ?_) (fun a0=> ?_)
 refine Y.seq (Y.region (Y.mv rfl .g2 (Y.as rfl .z (Y.nt (Y.ret (Y.y (Y.r ?_)))))))
 refine Y.r (Y.y (Y.r ?_))
 refine Y.i (aY rfl .z) .n ?_
 exact⟨by first |(rw [jZ (by assumption)];done) |(rw [sQ (by assumption) ae (by assumption) hallk];done) |(rw [iI (by assumption) (fun j y hj hy=>hallk j y (by omega) hy)];done),rfl⟩
 refine Y.skip (Y.ac (Y.g (Y.region ?_)))
 refine Y.ql rfl (bQ (c:=((k+1:Nat):Int)) rfl (.t .g9) .c (wr (by omega) (by omega) (by omega))) ?_
 refine Y.er .g10 (Y.mv rfl .z (Y.nil ?_))
 refine Y.ae (k+1) ⟨by omega,eM (q:=fun _ y=>bV y=0) hallk ae (by first | assumption | omega)⟩ (by first | omega |(dsimp only;omega)) (.c .z (.c .g11 (.c .g12 .n))) (fun _ h=>h.sel .n)
 refine Y.exit (Y.ab (Y.ab (Y.ai (Y.g (Y.seq (Y.region (Y.ql rfl (aA rfl .c) (Y.nil ?_))))))))
 refine Y.g (Y.ret ?_)
 refine Y.i (aY rfl .z) .n ?_
 exact⟨by first |(rw [jZ (by assumption)];done) |(rw [iI (by assumption) (fun j y hj hy=>hallk j y (by omega) hy)];done),rfl⟩

theorem aL3 {w0:World}{S0:Bs}{xs:(List aF)}{v0:Value} (h0:aP.ro w0 (FF w0 S0) xs [v0]):
    Calls Tryz.prog 98 #[v0] w0 (aJ w0 S0 (fun r l=>r= .int .i64 (bJ xs)∧l= [])):=by
 obtain⟨A0,c0,rfl,a0,a1,a2,ay⟩:=aH h0
 refine Y.enter (N:=21) Tryz.func98 rfl rfl (by simp) [(0,.slice A0 xs.length c0)] (by simp) (l0:= []) trivial ?_
 refine Y.seq (Y.region (Y.ql rfl (aA rfl .c) (Y.nt (Y.seq (Y.seq (Y.region (Y.mv rfl .g1 ?_)))))))
 refine Y.ql rfl (bM rfl cE (.t .z)) (Y.ql rfl (gO rfl (.t .z) .c) (Y.nt ?_))
 refine Y.u (.t .z) (fun b2=> ?_) (fun b2=> ?_)
 refine Y.seq (Y.region (Y.er .g3 (Y.ql rfl (aA rfl .c) (Y.nt (Y.ret (Y.r ?_))))))
 refine Y.i (aY rfl .z) .n ?_
 exact⟨by first |(rw [jZ (by assumption)];done) |(rw [iI (by assumption) (fun j y hj hy=>hallk j y (by omega) hy)];done),rfl⟩
 refine Y.skip (Y.g (Y.seq (Y.seq (Y.region (Y.ql rfl (aA rfl .c) (Y.nt (Y.block ?_)))))))
 refine Y.aj (γ:=Nat) (fun k=> [(3,.int .i64 (k:Int)),(0,.slice A0 xs.length c0)]) (fun k=> []) (fun k=>k≤xs.length∧∀j y,j<k→xs[j]? =some y→bV y=0) (fun k=>xs.length - k) 0 ⟨Nat.zero_le _,eV (q:=fun _ y=>bV y=0)⟩ (.c .z (.c .g5 .n)) (fun _ h=>h) ?_
 rintro k ⟨hk,hallk⟩
 refine Y.seq (Y.seq (Y.region (Y.mv rfl .z (Y.mv rfl .g2 (Y.ql rfl (bM rfl cE (.t .z)) (Y.ql rfl (dJ rfl (.t .g2) (.t .z)) (Y.nt ?_)))))))
 refine Y.u (.t .z) (fun b3=> ?_) (fun b3=> ?_)
 refine Y.skip (Y.g (Y.seq (Y.block (Y.seq (Y.region (Y.mv rfl .g5 (Y.mv rfl .g5 ?_)))))))
 obtain⟨a3,aa,ab⟩:=ay (by omega)
 subst aa
 obtain⟨x5,af⟩:=aI (xs:=xs) (j:=k) (by omega)
 obtain⟨az,ac,ag,ah⟩:=ab.elem af
 obtain⟨aq,ar,rfl,ad,ae⟩:=cK ac
 obtain⟨au,av,rfl,ai,aj,ak,al⟩:=aH ad
 obtain⟨aw,ax,rfl,am,an,ao,ap⟩:=aH ae
 refine Y.ql rfl (aC (j:=k) rfl cE aU (.t .g1) (.t .z) rfl (by omega)) ?_
 refine Y.cl rfl rfl Tryz.func135 rfl rfl (bT (.t .z)) .n (fun _ _ hs tr=>aHb (tr.el ag ac ah)) ?_
 rintro _ _ ⟨rfl,rfl⟩
 refine Y.m .n ?_
 refine Y.as rfl .z (Y.nt (Y.seq (Y.region (Y.mv rfl .z (Y.ql rfl (cU rfl (.t .z) .c) (Y.nt ?_))))))
 refine Y.ad (.t .z) (fun b9=> ?_) (fun b9=> ?_)
 refine Y.seq (Y.region (Y.mv rfl .g2 (Y.as rfl .z (Y.nt (Y.ret (Y.y (Y.r ?_)))))))
 refine Y.r (Y.y (Y.r ?_))
 refine Y.i (aY rfl .z) .n ?_
 exact⟨by first |(rw [jZ (by assumption)];done) |(rw [sQ (by assumption) af (by assumption) hallk];done) |(rw [iI (by assumption) (fun j y hj hy=>hallk j y (by omega) hy)];done),rfl⟩
 refine Y.skip (Y.ac (Y.g (Y.region (Y.mv rfl .g11 ?_))))
 refine Y.ql rfl (bQ (c:=((k+1:Nat):Int)) rfl (.t .z) .c (wr (by omega) (by omega) (by omega))) ?_
 refine Y.er .g13 (Y.as rfl .z (Y.nil ?_))
 refine Y.ae (k+1) ⟨by omega,eM (q:=fun _ y=>bV y=0) hallk af (by first | assumption | omega)⟩ (by first | omega |(dsimp only;omega)) (.c .z (.c .g14 .n)) (fun _ h=>h)
 refine Y.exit (Y.ab (Y.ab (Y.ai (Y.g (Y.seq (Y.region (Y.ql rfl (aA rfl .c) (Y.nil ?_))))))))
 refine Y.g (Y.ret ?_)
 refine Y.i (aY rfl .z) .n ?_
 exact⟨by first |(rw [jZ (by assumption)];done) |(rw [iI (by assumption) (fun j y hj hy=>hallk j y (by omega) hy)];done),rfl⟩

end Go.Proofs.YtmejbfmhaoilmaaGreat

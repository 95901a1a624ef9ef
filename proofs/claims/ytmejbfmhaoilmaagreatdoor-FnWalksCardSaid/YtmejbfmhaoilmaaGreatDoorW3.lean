/- What is proved: contracts of functions, one a function. No condition. -/
import Derived.Test.YtmejbfmhaoilmaaGreatDoorBase1
import Derived.Test.YtmejbfmhaoilmaaGreatDoorW2
namespace Go.Proofs.YtmejbfmhaoilmaaGreatDoor
open Go Go.RowKit
set_option linter.unusedVariables false
set_option linter.unusedSimpArgs false
set_option maxHeartbeats 1000000
set_option maxRecDepth 20000
theorem aMb {w0:World}{S0:Bs}{x:aF}{ag:List Value} (h0:cR.ro w0 (FF w0 S0) x ag):
    Calls Tryz.prog 120 #[.agg ag.toArray] w0 (aI w0 S0 (fun r l=>r= .int .i64 (cH x)∧l= [])):=by
 obtain⟨ap,aq,rfl,aa,ab⟩:=bY h0
 obtain⟨ac,ad,rfl,ah,ai,aj,ak⟩:=aD aa
 obtain⟨ae,af,rfl,al,am,an,ao⟩:=aD ab
 refine Y.enter (N:=50) Tryz.func120 rfl rfl (by simp) [(0,.agg #[.int .i64 x.kind,.int .i64 x.links,.int .i64 x.size,.slice ac x.blocks.length ad,.slice ae x.ents.length af])] (by simp) (l0:= []) trivial ?_
 refine Y.seq (Y.region ?_)
 refine Y.el rfl (fQ (cs:= [.int .i64 x.kind,.int .i64 x.links,.int .i64 x.size,.slice ac x.blocks.length ad,.slice ae x.ents.length af]) (n:=5) rfl (.t .z) rfl rfl) ?_
 rintro _ _ ⟨g3,rfl,rfl⟩
 refine Y.ql rfl (aA rfl .c) (Y.nt (Y.seq (Y.region (Y.fa rfl .g1 iZ (Y.ld rfl bP .z .z (Y.ql rfl (bU rfl (.t .z) .c) (Y.mv rfl .z ?_)))))))
 refine Y.al .z (fun g4=> ?_) (fun g4=> ?_)
 refine Y.qg rfl rfl .z rfl rfl rfl (aN rfl (.t .g5) (fun _=>gU _ _)) ?_
 refine Y.qg rfl rfl .g1 rfl rfl rfl (aM rfl bP (.t .z) (WS.g .z rfl)) ?_
 refine Y.qg rfl rfl .g2 rfl rfl rfl (bU rfl (.t .z) .c) ?_
 refine Y.ql rfl (bI rfl (.t .g3) (.t .z)) (Y.mv rfl .z ?_)
 refine Y.al .z (fun g5=> ?_) (fun g5=> ?_)
 refine Y.qg rfl rfl .z rfl rfl rfl (aN rfl (.t .g10) (fun _=>dH _ _)) ?_
 refine Y.qg rfl rfl .g1 rfl rfl rfl (aM rfl eZ (.t .z) (WS.g .z rfl)) ?_
 refine Y.qg rfl rfl .g2 rfl rfl rfl (bD rfl eF (.t .z)) ?_
 refine Y.qg rfl rfl .g3 rfl rfl rfl (bU rfl (.t .z) .c) ?_
 refine Y.ql rfl (bI rfl (.t .g4) (.t .z)) (Y.as rfl .z (Y.nt (Y.seq (Y.region (Y.fa rfl .g16 bL (Y.ld rfl dX .z .z (Y.ql rfl (bD rfl dP (.t .z)) ?_)))))))
 refine Y.ql rfl (bU rfl (.t .z) .c) (Y.as rfl .z (Y.nt (Y.seq (Y.block (Y.seq (Y.seq (Y.region ?_)))))))
 refine Y.fa rfl (.s16 .g5) bS (Y.ld rfl bP .z .z ?_)
 refine Y.cl rfl rfl Tryz.func48 rfl rfl (eL (.t .z) .c .c) .n (fun _ _ hs tr=>aBe _ _ _) ?_
 rintro _ _ ⟨rfl,rfl⟩
 refine Y.m .n ?_
 refine Y.ql rfl (fF rfl (.t .z)) (Y.as rfl .z (Y.nt ?_))
 refine Y.ac (.t .z) (fun b6=> ?_) (fun b6=> ?_)
 refine Y.skip (Y.g ?_)
 refine Y.ac (.t .z) (fun b7=> ?_) (fun b7=> ?_)
 refine Y.seq (Y.region (Y.er (.s16 .g9) (Y.ql rfl (aA rfl .c) (Y.nt (Y.ret (Y.v (Y.j ?_)))))))
 refine Y.i (aU rfl .z) .n ?_
 exact⟨by first |(rw [cM (by assumption)];done) |(rw [cK (by omega)];done) |(rw [cL (by omega) (by omega)];done) |(rw [cN (by assumption) (by omega) (by omega) (by omega)];done) |(rw [cE (by omega) (by omega)];done) |(rw [cD (by omega) (by omega) (by omega)];done),rfl⟩
 refine Y.seq (Y.region (Y.fa rfl (.s16 .g10) bS (Y.ld rfl bP .z .z (Y.ql rfl (bU rfl (.t .z) .c) (Y.as rfl .z (Y.nt ?_))))))
 refine Y.u (.t .z) (fun b8=> ?_) (fun b8=> ?_)
 refine Y.seq (Y.region (Y.ql rfl (qW rfl fH (.t (.s16 .g14)) .z aT) ?_))
 refine Y.cl rfl rfl Tryz.func141 rfl rfl (bG (.t .z)) .n (fun _ _ hs tr=>zP (iU x (tr.ctx aa) (tr.ctx ab))) ?_
 rintro _ _ ⟨rfl,rfl⟩
 refine Y.m .n ?_
 refine Y.er (.s16 .g15) (Y.as rfl .z (Y.nt (Y.ret (Y.v (Y.j ?_)))))
 refine Y.i (aU rfl .z) .n ?_
 exact⟨by first |(rw [cM (by assumption)];done) |(rw [cK (by omega)];done) |(rw [cL (by omega) (by omega)];done) |(rw [cN (by assumption) (by omega) (by omega) (by omega)];done) |(rw [cE (by omega) (by omega)];done) |(rw [cD (by omega) (by omega) (by omega)];done),rfl⟩
 refine Y.skip (Y.ab (Y.g (Y.seq (Y.region (Y.ql rfl (qW rfl fH (.t (.s16 .g14)) .z aT) ?_)))))
 refine Y.cl rfl rfl Tryz.func142 rfl rfl (bG (.t .z)) .n (fun _ _ hs tr=>aCj (iU x (tr.ctx aa) (tr.ctx ab))) ?_
 rintro _ _ ⟨rfl,rfl⟩
 refine Y.m .n ?_
 refine Y.er (.s16 .g15) (Y.as rfl .z (Y.nt (Y.ret ?_)))
 refine Y.i (aU rfl .z) .n ?_
 exact⟨by first |(rw [cM (by assumption)];done) |(rw [cK (by omega)];done) |(rw [cL (by omega) (by omega)];done) |(rw [cN (by assumption) (by omega) (by omega) (by omega)];done) |(rw [cE (by omega) (by omega)];done) |(rw [cD (by omega) (by omega) (by omega)];done),rfl⟩
 refine Y.seq (Y.region (Y.fa rfl (.s16 .g10) bS (Y.ld rfl bP .z .z (Y.ql rfl (bW rfl (.t .z) .c) (Y.mv rfl .z ?_)))))
 refine Y.an .z (fun g9=> ?_) (fun g9=> ?_)
 refine Y.qg rfl rfl .z rfl rfl rfl (aR rfl (.t .g14)) ?_
 refine Y.qg rfl rfl .g1 rfl rfl rfl (fF rfl (.t .z)) ?_
 refine Y.ql rfl (bI rfl (.t .g2) (.t .z)) (Y.er .g7 (Y.as rfl .z (Y.nt ?_)))
 refine Y.ac (.t .z) (fun ar=> ?_) (fun ar=> ?_)
 refine Y.skip (Y.g ?_)
 refine Y.ac (.t .z) (fun au=> ?_) (fun au=> ?_)
 refine Y.seq (Y.region (Y.er (.s16 .g16) (Y.ql rfl (aA rfl .c) (Y.nt (Y.ret (Y.v (Y.j ?_)))))))
 refine Y.i (aU rfl .z) .n ?_
 exact⟨by first |(rw [cM (by assumption)];done) |(rw [cK (by omega)];done) |(rw [cL (by omega) (by omega)];done) |(rw [cN (by assumption) (by omega) (by omega) (by omega)];done) |(rw [cE (by omega) (by omega)];done) |(rw [cD (by omega) (by omega) (by omega)];done),rfl⟩
 exfalso;first | omega | contradiction
 refine Y.region (Y.fa rfl (.s16 (.s16 .g1)) bS (Y.ld rfl bP .z .z (Y.ql rfl (bW rfl (.t .z) .c) (Y.mv rfl .z ?_))))
 refine Y.an .z (fun g12=> ?_) (fun g12=> ?_)
 refine Y.qg rfl rfl .z rfl rfl rfl (aR rfl (.t .g16)) ?_
 refine Y.qg rfl rfl .g1 rfl rfl rfl (fF rfl (.t .z)) ?_
 refine Y.ql rfl (bI rfl (.t .g2) (.t .z)) (Y.er .g7 (Y.as rfl .z (Y.nt ?_)))
 refine Y.ac (.t .z) (fun av=> ?_) (fun av=> ?_)
 refine Y.seq (Y.region (Y.er (.s16 (.s16 .g7)) (Y.ql rfl (aA rfl .c) (Y.nt (Y.ret (Y.v (Y.j ?_)))))))
 refine Y.i (aU rfl .z) .n ?_
 exact⟨by first |(rw [cM (by assumption)];done) |(rw [cK (by omega)];done) |(rw [cL (by omega) (by omega)];done) |(rw [cN (by assumption) (by omega) (by omega) (by omega)];done) |(rw [cE (by omega) (by omega)];done) |(rw [cD (by omega) (by omega) (by omega)];done),rfl⟩
 refine Y.seq (Y.region (Y.fa rfl (.s16 (.s16 .g8)) bS (Y.ld rfl bP .z .z (Y.ql rfl (bU rfl (.t .z) .c) (Y.as rfl .z (Y.nt ?_))))))
 refine Y.u (.t .z) (fun aw=> ?_) (fun aw=> ?_)
 exfalso;first | omega | contradiction
 refine Y.skip (Y.ab (Y.g (Y.seq (Y.region (Y.ql rfl (qW rfl fH (.t (.s16 (.s16 .g12))) .z aT) ?_)))))
 refine Y.cl rfl rfl Tryz.func142 rfl rfl (bG (.t .z)) .n (fun _ _ hs tr=>aCj (iU x (tr.ctx aa) (tr.ctx ab))) ?_
 rintro _ _ ⟨rfl,rfl⟩
 refine Y.m .n ?_
 refine Y.er (.s16 (.s16 .g13)) (Y.as rfl .z (Y.nt (Y.ret ?_)))
 refine Y.i (aU rfl .z) .n ?_
 exact⟨by first |(rw [cM (by assumption)];done) |(rw [cK (by omega)];done) |(rw [cL (by omega) (by omega)];done) |(rw [cN (by assumption) (by omega) (by omega) (by omega)];done) |(rw [cE (by omega) (by omega)];done) |(rw [cD (by omega) (by omega) (by omega)];done),rfl⟩
 refine Y.r rfl rfl .z rfl rfl (by decide) rfl ?_
 refine Y.r rfl rfl .g1 rfl rfl (by decide) rfl ?_
 refine Y.ql rfl (bH rfl (.t .g2) .c) (Y.er .g7 (Y.as rfl .z (Y.nt ?_)))
 refine Y.ap (.t .z) ?_
 refine Y.seq (Y.region (Y.fa rfl (.s16 (.s16 .g8)) bS (Y.ld rfl bP .z .z (Y.ql rfl (bU rfl (.t .z) .c) (Y.as rfl .z (Y.nt ?_))))))
 refine Y.u (.t .z) (fun ax=> ?_) (fun ax=> ?_)
 exfalso;first | omega | contradiction
 refine Y.skip (Y.ab (Y.g (Y.seq (Y.region (Y.ql rfl (qW rfl fH (.t (.s16 (.s16 .g12))) .z aT) ?_)))))
 refine Y.cl rfl rfl Tryz.func142 rfl rfl (bG (.t .z)) .n (fun _ _ hs tr=>aCj (iU x (tr.ctx aa) (tr.ctx ab))) ?_
 rintro _ _ ⟨rfl,rfl⟩
 refine Y.m .n ?_
 refine Y.er (.s16 (.s16 .g13)) (Y.as rfl .z (Y.nt (Y.ret ?_)))
 refine Y.i (aU rfl .z) .n ?_
 exact⟨by first |(rw [cM (by assumption)];done) |(rw [cK (by omega)];done) |(rw [cL (by omega) (by omega)];done) |(rw [cN (by assumption) (by omega) (by omega) (by omega)];done) |(rw [cE (by omega) (by omega)];done) |(rw [cD (by omega) (by omega) (by omega)];done),rfl⟩
 refine Y.r rfl rfl .z rfl rfl (by decide) rfl ?_
 refine Y.r rfl rfl .g1 rfl rfl (by decide) rfl ?_
 refine Y.ql rfl (bH rfl (.t .g2) .c) (Y.er .g7 (Y.as rfl .z (Y.nt ?_)))
 refine Y.ap (.t .z) ?_
 refine Y.region (Y.fa rfl (.s16 (.s16 .g1)) bS (Y.ld rfl bP .z .z (Y.ql rfl (bW rfl (.t .z) .c) (Y.mv rfl .z ?_))))
 refine Y.an .z (fun g16=> ?_) (fun g16=> ?_)
 refine Y.qg rfl rfl .z rfl rfl rfl (aR rfl (.t .g16)) ?_
 refine Y.qg rfl rfl .g1 rfl rfl rfl (fF rfl (.t .z)) ?_
 refine Y.ql rfl (bI rfl (.t .g2) (.t .z)) (Y.er .g7 (Y.as rfl .z (Y.nt ?_)))
 refine Y.ac (.t .z) (fun ay=> ?_) (fun ay=> ?_)
 refine Y.seq (Y.region (Y.er (.s16 (.s16 .g7)) (Y.ql rfl (aA rfl .c) (Y.nt (Y.ret (Y.v (Y.j ?_)))))))
 refine Y.i (aU rfl .z) .n ?_
 exact⟨by first |(rw [cM (by assumption)];done) |(rw [cK (by omega)];done) |(rw [cL (by omega) (by omega)];done) |(rw [cN (by assumption) (by omega) (by omega) (by omega)];done) |(rw [cE (by omega) (by omega)];done) |(rw [cD (by omega) (by omega) (by omega)];done),rfl⟩
 refine Y.seq (Y.region (Y.fa rfl (.s16 (.s16 .g8)) bS (Y.ld rfl bP .z .z (Y.ql rfl (bU rfl (.t .z) .c) (Y.as rfl .z (Y.nt ?_))))))
 refine Y.u (.t .z) (fun az=> ?_) (fun az=> ?_)
 refine Y.seq (Y.region (Y.ql rfl (qW rfl fH (.t (.s16 (.s16 .g12))) .z aT) ?_))
 refine Y.cl rfl rfl Tryz.func141 rfl rfl (bG (.t .z)) .n (fun _ _ hs tr=>zP (iU x (tr.ctx aa) (tr.ctx ab))) ?_
 rintro _ _ ⟨rfl,rfl⟩
 refine Y.m .n ?_
 refine Y.er (.s16 (.s16 .g13)) (Y.as rfl .z (Y.nt (Y.ret (Y.v (Y.j ?_)))))
 refine Y.i (aU rfl .z) .n ?_
 exact⟨by first |(rw [cM (by assumption)];done) |(rw [cK (by omega)];done) |(rw [cL (by omega) (by omega)];done) |(rw [cN (by assumption) (by omega) (by omega) (by omega)];done) |(rw [cE (by omega) (by omega)];done) |(rw [cD (by omega) (by omega) (by omega)];done),rfl⟩
 exfalso;first | omega | contradiction
 exfalso;first | omega | contradiction
 refine Y.r rfl rfl .z rfl rfl (by decide) rfl ?_
 refine Y.r rfl rfl .g1 rfl rfl (by decide) rfl ?_
 refine Y.r rfl rfl .g2 rfl rfl (by decide) rfl ?_
 refine Y.r rfl rfl .g3 rfl rfl (by decide) rfl ?_
 refine Y.ql rfl (bH rfl (.t .g4) .c) (Y.as rfl .z (Y.nt (Y.seq (Y.region (Y.fa rfl .g16 bL (Y.ld rfl dX .z .z (Y.ql rfl (bD rfl dP (.t .z)) ?_)))))))
 refine Y.ql rfl (bU rfl (.t .z) .c) (Y.as rfl .z (Y.nt (Y.seq (Y.block (Y.seq (Y.seq (Y.region ?_)))))))
 refine Y.fa rfl (.s16 .g5) bS (Y.ld rfl bP .z .z ?_)
 refine Y.cl rfl rfl Tryz.func48 rfl rfl (eL (.t .z) .c .c) .n (fun _ _ hs tr=>aBe _ _ _) ?_
 rintro _ _ ⟨rfl,rfl⟩
 refine Y.m .n ?_
 refine Y.ql rfl (fF rfl (.t .z)) (Y.as rfl .z (Y.nt ?_))
 refine Y.ac (.t .z) (fun a0=> ?_) (fun a0=> ?_)
 refine Y.skip (Y.g ?_)
 refine Y.ac (.t .z) (fun a1=> ?_) (fun a1=> ?_)
 refine Y.seq (Y.region (Y.er (.s16 .g9) (Y.ql rfl (aA rfl .c) (Y.nt (Y.ret (Y.v (Y.j ?_)))))))
 refine Y.i (aU rfl .z) .n ?_
 exact⟨by first |(rw [cM (by assumption)];done) |(rw [cK (by omega)];done) |(rw [cL (by omega) (by omega)];done) |(rw [cN (by assumption) (by omega) (by omega) (by omega)];done) |(rw [cE (by omega) (by omega)];done) |(rw [cD (by omega) (by omega) (by omega)];done),rfl⟩
 refine Y.seq (Y.region (Y.fa rfl (.s16 .g10) bS (Y.ld rfl bP .z .z (Y.ql rfl (bU rfl (.t .z) .c) (Y.as rfl .z (Y.nt ?_))))))
 refine Y.u (.t .z) (fun a2=> ?_) (fun a2=> ?_)
 refine Y.seq (Y.region (Y.ql rfl (qW rfl fH (.t (.s16 .g14)) .z aT) ?_))
 refine Y.cl rfl rfl Tryz.func141 rfl rfl (bG (.t .z)) .n (fun _ _ hs tr=>zP (iU x (tr.ctx aa) (tr.ctx ab))) ?_
 rintro _ _ ⟨rfl,rfl⟩
 refine Y.m .n ?_
 refine Y.er (.s16 .g15) (Y.as rfl .z (Y.nt (Y.ret (Y.v (Y.j ?_)))))
 refine Y.i (aU rfl .z) .n ?_
 exact⟨by first |(rw [cM (by assumption)];done) |(rw [cK (by omega)];done) |(rw [cL (by omega) (by omega)];done) |(rw [cN (by assumption) (by omega) (by omega) (by omega)];done) |(rw [cE (by omega) (by omega)];done) |(rw [cD (by omega) (by omega) (by omega)];done),rfl⟩
 refine Y.skip (Y.ab (Y.g (Y.seq (Y.region (Y.ql rfl (qW rfl fH (.t (.s16 .g14)) .z aT) ?_)))))
 refine Y.cl rfl rfl Tryz.func142 rfl rfl (bG (.t .z)) .n (fun _ _ hs tr=>aCj (iU x (tr.ctx aa) (tr.ctx ab))) ?_
 rintro _ _ ⟨rfl,rfl⟩
 refine Y.m .n ?_
 refine Y.er (.s16 .g15) (Y.as rfl .z (Y.nt (Y.ret ?_)))
 refine Y.i (aU rfl .z) .n ?_
 exact⟨by first |(rw [cM (by assumption)];done) |(rw [cK (by omega)];done) |(rw [cL (by omega) (by omega)];done) |(rw [cN (by assumption) (by omega) (by omega) (by omega)];done) |(rw [cE (by omega) (by omega)];done) |(rw [cD (by omega) (by omega) (by omega)];done),rfl⟩
 refine Y.seq (Y.region (Y.fa rfl (.s16 .g10) bS (Y.ld rfl bP .z .z (Y.ql rfl (bW rfl (.t .z) .c) (Y.mv rfl .z ?_)))))
 refine Y.an .z (fun g22=> ?_) (fun g22=> ?_)
 refine Y.qg rfl rfl .z rfl rfl rfl (aR rfl (.t .g14)) ?_
 refine Y.qg rfl rfl .g1 rfl rfl rfl (fF rfl (.t .z)) ?_
 refine Y.ql rfl (bI rfl (.t .g2) (.t .z)) (Y.er .g7 (Y.as rfl .z (Y.nt ?_)))
 refine Y.aq (.t .z) ?_
 refine Y.skip (Y.g ?_)
 refine Y.aq (.t .z) ?_
 refine Y.seq (Y.region (Y.er (.s16 .g16) (Y.ql rfl (aA rfl .c) (Y.nt (Y.ret (Y.v (Y.j ?_)))))))
 refine Y.i (aU rfl .z) .n ?_
 exact⟨by first |(rw [cM (by assumption)];done) |(rw [cK (by omega)];done) |(rw [cL (by omega) (by omega)];done) |(rw [cN (by assumption) (by omega) (by omega) (by omega)];done) |(rw [cE (by omega) (by omega)];done) |(rw [cD (by omega) (by omega) (by omega)];done),rfl⟩
 refine Y.r rfl rfl .z rfl rfl (by decide) rfl ?_
 refine Y.r rfl rfl .g1 rfl rfl (by decide) rfl ?_
 refine Y.ql rfl (bH rfl (.t .g2) .c) (Y.er .g7 (Y.as rfl .z (Y.nt ?_)))
 refine Y.ap (.t .z) ?_
 refine Y.region (Y.fa rfl (.s16 (.s16 .g1)) bS (Y.ld rfl bP .z .z (Y.ql rfl (bW rfl (.t .z) .c) (Y.mv rfl .z ?_))))
 refine Y.an .z (fun g23=> ?_) (fun g23=> ?_)
 refine Y.qg rfl rfl .z rfl rfl rfl (aR rfl (.t .g16)) ?_
 refine Y.qg rfl rfl .g1 rfl rfl rfl (fF rfl (.t .z)) ?_
 refine Y.ql rfl (bI rfl (.t .g2) (.t .z)) (Y.er .g7 (Y.as rfl .z (Y.nt ?_)))
 refine Y.ac (.t .z) (fun a3=> ?_) (fun a3=> ?_)
 refine Y.seq (Y.region (Y.er (.s16 (.s16 .g7)) (Y.ql rfl (aA rfl .c) (Y.nt (Y.ret (Y.v (Y.j ?_)))))))
 refine Y.i (aU rfl .z) .n ?_
 exact⟨by first |(rw [cM (by assumption)];done) |(rw [cK (by omega)];done) |(rw [cL (by omega) (by omega)];done) |(rw [cN (by assumption) (by omega) (by omega) (by omega)];done) |(rw [cE (by omega) (by omega)];done) |(rw [cD (by omega) (by omega) (by omega)];done),rfl⟩
 refine Y.seq (Y.region (Y.fa rfl (.s16 (.s16 .g8)) bS (Y.ld rfl bP .z .z (Y.ql rfl (bU rfl (.t .z) .c) (Y.as rfl .z (Y.nt ?_))))))
 refine Y.u (.t .z) (fun a4=> ?_) (fun a4=> ?_)
 refine Y.seq (Y.region (Y.ql rfl (qW rfl fH (.t (.s16 (.s16 .g12))) .z aT) ?_))
 refine Y.cl rfl rfl Tryz.func141 rfl rfl (bG (.t .z)) .n (fun _ _ hs tr=>zP (iU x (tr.ctx aa) (tr.ctx ab))) ?_
 rintro _ _ ⟨rfl,rfl⟩
 refine Y.m .n ?_
 refine Y.er (.s16 (.s16 .g13)) (Y.as rfl .z (Y.nt (Y.ret (Y.v (Y.j ?_)))))
 refine Y.i (aU rfl .z) .n ?_
 exact⟨by first |(rw [cM (by assumption)];done) |(rw [cK (by omega)];done) |(rw [cL (by omega) (by omega)];done) |(rw [cN (by assumption) (by omega) (by omega) (by omega)];done) |(rw [cE (by omega) (by omega)];done) |(rw [cD (by omega) (by omega) (by omega)];done),rfl⟩
 exfalso;first | omega | contradiction
 exfalso;first | omega | contradiction
 refine Y.r rfl rfl .z rfl rfl (by decide) rfl ?_
 refine Y.r rfl rfl .g1 rfl rfl (by decide) rfl ?_
 refine Y.r rfl rfl .g2 rfl rfl (by decide) rfl ?_
 refine Y.ql rfl (bH rfl (.t .g3) .c) (Y.mv rfl .z ?_)
 refine Y.r rfl rfl .z rfl rfl (by decide) rfl ?_
 refine Y.r rfl rfl .g1 rfl rfl (by decide) rfl ?_
 refine Y.r rfl rfl .g2 rfl rfl (by decide) rfl ?_
 refine Y.r rfl rfl .g3 rfl rfl (by decide) rfl ?_
 refine Y.ql rfl (bH rfl (.t .g4) .c) (Y.as rfl .z (Y.nt (Y.seq (Y.region (Y.fa rfl .g16 bL (Y.ld rfl dX .z .z (Y.ql rfl (bD rfl dP (.t .z)) ?_)))))))
 refine Y.ql rfl (bU rfl (.t .z) .c) (Y.as rfl .z (Y.nt (Y.seq (Y.block (Y.seq (Y.seq (Y.region ?_)))))))
 refine Y.fa rfl (.s16 .g5) bS (Y.ld rfl bP .z .z ?_)
 refine Y.cl rfl rfl Tryz.func48 rfl rfl (eL (.t .z) .c .c) .n (fun _ _ hs tr=>aBe _ _ _) ?_
 rintro _ _ ⟨rfl,rfl⟩
 refine Y.m .n ?_
 refine Y.ql rfl (fF rfl (.t .z)) (Y.as rfl .z (Y.nt ?_))
 refine Y.ac (.t .z) (fun a5=> ?_) (fun a5=> ?_)
 refine Y.skip (Y.g ?_)
 refine Y.ac (.t .z) (fun a6=> ?_) (fun a6=> ?_)
 refine Y.seq (Y.region (Y.er (.s16 .g9) (Y.ql rfl (aA rfl .c) (Y.nt (Y.ret (Y.v (Y.j ?_)))))))
 refine Y.i (aU rfl .z) .n ?_
 exact⟨by first |(rw [cM (by assumption)];done) |(rw [cK (by omega)];done) |(rw [cL (by omega) (by omega)];done) |(rw [cN (by assumption) (by omega) (by omega) (by omega)];done) |(rw [cE (by omega) (by omega)];done) |(rw [cD (by omega) (by omega) (by omega)];done),rfl⟩
 refine Y.seq (Y.region (Y.fa rfl (.s16 .g10) bS (Y.ld rfl bP .z .z (Y.ql rfl (bU rfl (.t .z) .c) (Y.as rfl .z (Y.nt ?_))))))
 refine Y.u (.t .z) (fun a7=> ?_) (fun a7=> ?_)
 refine Y.seq (Y.region (Y.ql rfl (qW rfl fH (.t (.s16 .g14)) .z aT) ?_))
 refine Y.cl rfl rfl Tryz.func141 rfl rfl (bG (.t .z)) .n (fun _ _ hs tr=>zP (iU x (tr.ctx aa) (tr.ctx ab))) ?_
 rintro _ _ ⟨rfl,rfl⟩
 refine Y.m .n ?_
 refine Y.er (.s16 .g15) (Y.as rfl .z (Y.nt (Y.ret (Y.v (Y.j ?_)))))
 refine Y.i (aU rfl .z) .n ?_
 exact⟨by first |(rw [cM (by assumption)];done) |(rw [cK (by omega)];done) |(rw [cL (by omega) (by omega)];done) |(rw [cN (by assumption) (by omega) (by omega) (by omega)];done) |(rw [cE (by omega) (by omega)];done) |(rw [cD (by omega) (by omega) (by omega)];done),rfl⟩
 refine Y.skip (Y.ab (Y.g (Y.seq (Y.region (Y.ql rfl (qW rfl fH (.t (.s16 .g14)) .z aT) ?_)))))
 refine Y.cl rfl rfl Tryz.func142 rfl rfl (bG (.t .z)) .n (fun _ _ hs tr=>aCj (iU x (tr.ctx aa) (tr.ctx ab))) ?_
 rintro _ _ ⟨rfl,rfl⟩
 refine Y.m .n ?_
 refine Y.er (.s16 .g15) (Y.as rfl .z (Y.nt (Y.ret ?_)))
 refine Y.i (aU rfl .z) .n ?_
 exact⟨by first |(rw [cM (by assumption)];done) |(rw [cK (by omega)];done) |(rw [cL (by omega) (by omega)];done) |(rw [cN (by assumption) (by omega) (by omega) (by omega)];done) |(rw [cE (by omega) (by omega)];done) |(rw [cD (by omega) (by omega) (by omega)];done),rfl⟩
 refine Y.seq (Y.region (Y.fa rfl (.s16 .g10) bS (Y.ld rfl bP .z .z (Y.ql rfl (bW rfl (.t .z) .c) (Y.mv rfl .z ?_)))))
 refine Y.an .z (fun g29=> ?_) (fun g29=> ?_)
 refine Y.qg rfl rfl .z rfl rfl rfl (aR rfl (.t .g14)) ?_
 refine Y.qg rfl rfl .g1 rfl rfl rfl (fF rfl (.t .z)) ?_
 refine Y.ql rfl (bI rfl (.t .g2) (.t .z)) (Y.er .g7 (Y.as rfl .z (Y.nt ?_)))
 refine Y.aq (.t .z) ?_
 refine Y.skip (Y.g ?_)
 refine Y.aq (.t .z) ?_
 refine Y.seq (Y.region (Y.er (.s16 .g16) (Y.ql rfl (aA rfl .c) (Y.nt (Y.ret (Y.v (Y.j ?_)))))))
 refine Y.i (aU rfl .z) .n ?_
 exact⟨by first |(rw [cM (by assumption)];done) |(rw [cK (by omega)];done) |(rw [cL (by omega) (by omega)];done) |(rw [cN (by assumption) (by omega) (by omega) (by omega)];done) |(rw [cE (by omega) (by omega)];done) |(rw [cD (by omega) (by omega) (by omega)];done),rfl⟩
 refine Y.r rfl rfl .z rfl rfl (by decide) rfl ?_
 refine Y.r rfl rfl .g1 rfl rfl (by decide) rfl ?_
 refine Y.ql rfl (bH rfl (.t .g2) .c) (Y.er .g7 (Y.as rfl .z (Y.nt ?_)))
 refine Y.ap (.t .z) ?_
 refine Y.region (Y.fa rfl (.s16 (.s16 .g1)) bS (Y.ld rfl bP .z .z (Y.ql rfl (bW rfl (.t .z) .c) (Y.mv rfl .z ?_))))
 refine Y.an .z (fun g30=> ?_) (fun g30=> ?_)
 refine Y.qg rfl rfl .z rfl rfl rfl (aR rfl (.t .g16)) ?_
 refine Y.qg rfl rfl .g1 rfl rfl rfl (fF rfl (.t .z)) ?_
 refine Y.ql rfl (bI rfl (.t .g2) (.t .z)) (Y.er .g7 (Y.as rfl .z (Y.nt ?_)))
 refine Y.ac (.t .z) (fun a8=> ?_) (fun a8=> ?_)
 refine Y.seq (Y.region (Y.er (.s16 (.s16 .g7)) (Y.ql rfl (aA rfl .c) (Y.nt (Y.ret (Y.v (Y.j ?_)))))))
 refine Y.i (aU rfl .z) .n ?_
 exact⟨by first |(rw [cM (by assumption)];done) |(rw [cK (by omega)];done) |(rw [cL (by omega) (by omega)];done) |(rw [cN (by assumption) (by omega) (by omega) (by omega)];done) |(rw [cE (by omega) (by omega)];done) |(rw [cD (by omega) (by omega) (by omega)];done),rfl⟩
 refine Y.seq (Y.region (Y.fa rfl (.s16 (.s16 .g8)) bS (Y.ld rfl bP .z .z (Y.ql rfl (bU rfl (.t .z) .c) (Y.as rfl .z (Y.nt ?_))))))
 refine Y.u (.t .z) (fun a9=> ?_) (fun a9=> ?_)
 refine Y.seq (Y.region (Y.ql rfl (qW rfl fH (.t (.s16 (.s16 .g12))) .z aT) ?_))
 refine Y.cl rfl rfl Tryz.func141 rfl rfl (bG (.t .z)) .n (fun _ _ hs tr=>zP (iU x (tr.ctx aa) (tr.ctx ab))) ?_
 rintro _ _ ⟨rfl,rfl⟩
 refine Y.m .n ?_
 refine Y.er (.s16 (.s16 .g13)) (Y.as rfl .z (Y.nt (Y.ret (Y.v (Y.j ?_)))))
 refine Y.i (aU rfl .z) .n ?_
 exact⟨by first |(rw [cM (by assumption)];done) |(rw [cK (by omega)];done) |(rw [cL (by omega) (by omega)];done) |(rw [cN (by assumption) (by omega) (by omega) (by omega)];done) |(rw [cE (by omega) (by omega)];done) |(rw [cD (by omega) (by omega) (by omega)];done),rfl⟩
 exfalso;first | omega | contradiction
 exfalso;first | omega | contradiction

theorem aLg {w0:World}{S0:Bs}{x:aF}{ac:Addr} (h0:eV cR w0 (FF w0 S0) ac x):
    Calls Tryz.prog 57 #[.pointer (some ac)] w0 (aI w0 S0 (fun r l=>r= .int .i64 (cH x)∧l= [])):=by
 obtain⟨a2,aa,an,ab⟩:=id h0
 obtain⟨ao,ap,rfl,ad,ae⟩:=bY an
 obtain⟨aq,ar,rfl,af,ag,ah,ai⟩:=aD ad
 obtain⟨au,av,rfl,aj,ak,al,am⟩:=aD ae
 refine Y.enter (N:=63) Tryz.func57 rfl rfl (by simp) [(0,.pointer (some ac))] (by simp) (l0:= []) trivial ?_
 refine Y.seq (Y.region (Y.ql rfl (aA rfl .c) (Y.nt (Y.seq (Y.seq (Y.region (Y.mv rfl .g1 ?_)))))))
 refine Y.nc rfl .z (Y.fa rfl .z bS (Y.le rfl bP .z aa ab ?_))
 refine Y.cl rfl rfl Tryz.func86 rfl rfl (eL (.t .z) .c .c) .n (fun _ _ hs tr=>yK _ _ _) ?_
 rintro _ _ ⟨rfl,rfl⟩
 refine Y.m .n ?_
 refine Y.ql rfl (fF rfl (.t .z)) (Y.nt ?_)
 refine Y.ac (.t .z) (fun b3=> ?_) (fun b3=> ?_)
 refine Y.seq (Y.region (Y.er .g6 (Y.ql rfl (aA rfl .c) (Y.nt (Y.ret (Y.j ?_))))))
 refine Y.i (aU rfl .z) .n ?_
 exact⟨by first |(rw [cM (by assumption)];done) |(rw [cK (by omega)];done) |(rw [cL (by omega) (by omega)];done) |(rw [cN (by assumption) (by omega) (by omega) (by omega)];done) |(rw [cE (by omega) (by omega)];done) |(rw [cD (by omega) (by omega) (by omega)];done),rfl⟩
 refine Y.skip (Y.g (Y.seq (Y.seq (Y.region (Y.mv rfl .g7 (Y.nc rfl .z (Y.fa rfl .z bS (Y.le rfl bP .z aa ab ?_))))))))
 refine Y.ql rfl (bW rfl (.t .z) .c) (Y.mv rfl .z ?_)
 refine Y.an .z (fun g4=> ?_) (fun g4=> ?_)
 refine Y.qg rfl rfl .z rfl rfl rfl (aR rfl (.t .g13)) ?_
 refine Y.qg rfl rfl .g1 rfl rfl rfl (dZ rfl (.t .z)) ?_
 refine Y.qg rfl rfl .g2 rfl rfl rfl (aN rfl (.t .z) (fun _=>iZ _ _)) ?_
 refine Y.qg rfl rfl .g3 rfl rfl rfl (aM rfl bP (.t .z) (WS.el aa ab rfl)) ?_
 refine Y.qg rfl rfl .g4 rfl rfl rfl (bW rfl (.t .z) .c) ?_
 refine Y.qg rfl rfl .g5 rfl rfl rfl (aR rfl (.t .z)) ?_
 refine Y.an .z (fun g5=> ?_) (fun g5=> ?_)
 refine Y.r rfl rfl .z rfl rfl (by decide) rfl ?_
 refine Y.r rfl rfl .g1 rfl rfl (by decide) rfl ?_
 refine Y.r rfl rfl .g2 rfl rfl (by decide) rfl ?_
 refine Y.r rfl rfl .g3 rfl rfl (by decide) rfl ?_
 refine Y.r rfl rfl .g4 rfl rfl (by decide) rfl ?_
 refine Y.qg rfl rfl .g11 rfl rfl rfl (bI rfl (.t .g5) .c) ?_
 refine Y.qg rfl rfl .g12 rfl rfl rfl (aR rfl (.t .z)) ?_
 refine Y.r rfl rfl .z rfl rfl (by decide) rfl ?_
 refine Y.r rfl rfl .g1 rfl rfl (by decide) rfl ?_
 refine Y.r rfl rfl .g2 rfl rfl (by decide) rfl ?_
 refine Y.r rfl rfl .g3 rfl rfl (by decide) rfl ?_
 refine Y.r rfl rfl .g4 rfl rfl (by decide) rfl ?_
 refine Y.r rfl rfl .g5 rfl rfl (by decide) rfl ?_
 refine Y.qg rfl rfl (.s16 .g3) rfl rfl rfl (bI rfl (.t .g6) .c) ?_
 refine Y.ql rfl (bI rfl (.t (.s16 .g4)) (.t .z)) (Y.mv rfl .z ?_)
 refine Y.r rfl rfl .z rfl rfl (by decide) rfl ?_
 refine Y.r rfl rfl .g1 rfl rfl (by decide) rfl ?_
 refine Y.r rfl rfl .g2 rfl rfl (by decide) rfl ?_
 refine Y.r rfl rfl .g3 rfl rfl (by decide) rfl ?_
 refine Y.r rfl rfl .g4 rfl rfl (by decide) rfl ?_
 refine Y.r rfl rfl .g5 rfl rfl (by decide) rfl ?_
 refine Y.r rfl rfl .z rfl rfl (by decide) rfl ?_
 refine Y.r rfl rfl .g1 rfl rfl (by decide) rfl ?_
 refine Y.r rfl rfl .g2 rfl rfl (by decide) rfl ?_
 refine Y.r rfl rfl .g3 rfl rfl (by decide) rfl ?_
 refine Y.r rfl rfl .g4 rfl rfl (by decide) rfl ?_
 refine Y.r rfl rfl .g5 rfl rfl (by decide) rfl ?_
 refine Y.r rfl rfl .g12 rfl rfl (by decide) rfl ?_
 refine Y.ql rfl (bI rfl (.t .g13) .c) (Y.nt ?_)
 refine Y.aq (.t .z) ?_
 refine Y.seq (Y.region (Y.er (.s16 (.s16 .g16)) (Y.ql rfl (aA rfl .c) (Y.nt (Y.ret (Y.j ?_))))))
 refine Y.i (aU rfl .z) .n ?_
 exact⟨by first |(rw [cM (by assumption)];done) |(rw [cK (by omega)];done) |(rw [cL (by omega) (by omega)];done) |(rw [cN (by assumption) (by omega) (by omega) (by omega)];done) |(rw [cE (by omega) (by omega)];done) |(rw [cD (by omega) (by omega) (by omega)];done),rfl⟩
 refine Y.qg rfl rfl .z rfl rfl rfl (aR rfl (.t (.s16 .g3))) ?_
 refine Y.qg rfl rfl .g1 rfl rfl rfl (dZ rfl (.t .z)) ?_
 refine Y.qg rfl rfl .g2 rfl rfl rfl (aN rfl (.t .z) (fun _=>gU _ _)) ?_
 refine Y.qg rfl rfl .g3 rfl rfl rfl (aM rfl bP (.t .z) (WS.el aa ab rfl)) ?_
 refine Y.qg rfl rfl .g4 rfl rfl rfl (bW rfl (.t .z) .c) ?_
 refine Y.qg rfl rfl .g11 rfl rfl rfl (bH rfl (.t .g5) (.t .z)) ?_
 refine Y.qg rfl rfl .g12 rfl rfl rfl (aR rfl (.t .z)) ?_
 refine Y.an .z (fun g6=> ?_) (fun g6=> ?_)
 refine Y.r rfl rfl .z rfl rfl (by decide) rfl ?_
 refine Y.r rfl rfl .g1 rfl rfl (by decide) rfl ?_
 refine Y.r rfl rfl .g2 rfl rfl (by decide) rfl ?_
 refine Y.r rfl rfl .g3 rfl rfl (by decide) rfl ?_
 refine Y.r rfl rfl .g4 rfl rfl (by decide) rfl ?_
 refine Y.r rfl rfl .g5 rfl rfl (by decide) rfl ?_
 refine Y.qg rfl rfl (.s16 .g3) rfl rfl rfl (bI rfl (.t .g6) .c) ?_
 refine Y.ql rfl (bI rfl (.t (.s16 .g4)) (.t .z)) (Y.mv rfl .z ?_)
 refine Y.r rfl rfl .z rfl rfl (by decide) rfl ?_
 refine Y.r rfl rfl .g1 rfl rfl (by decide) rfl ?_
 refine Y.r rfl rfl .g2 rfl rfl (by decide) rfl ?_
 refine Y.r rfl rfl .g3 rfl rfl (by decide) rfl ?_
 refine Y.r rfl rfl .g4 rfl rfl (by decide) rfl ?_
 refine Y.r rfl rfl .g5 rfl rfl (by decide) rfl ?_
 refine Y.r rfl rfl .z rfl rfl (by decide) rfl ?_
 refine Y.r rfl rfl .g1 rfl rfl (by decide) rfl ?_
 refine Y.r rfl rfl .g2 rfl rfl (by decide) rfl ?_
 refine Y.r rfl rfl .g3 rfl rfl (by decide) rfl ?_
 refine Y.r rfl rfl .g4 rfl rfl (by decide) rfl ?_
 refine Y.r rfl rfl .g5 rfl rfl (by decide) rfl ?_
 refine Y.r rfl rfl .g12 rfl rfl (by decide) rfl ?_
 refine Y.ql rfl (bI rfl (.t .g13) .c) (Y.nt ?_)
 refine Y.aq (.t .z) ?_
 refine Y.seq (Y.region (Y.er (.s16 (.s16 .g16)) (Y.ql rfl (aA rfl .c) (Y.nt (Y.ret (Y.j ?_))))))
 refine Y.i (aU rfl .z) .n ?_
 exact⟨by first |(rw [cM (by assumption)];done) |(rw [cK (by omega)];done) |(rw [cL (by omega) (by omega)];done) |(rw [cN (by assumption) (by omega) (by omega) (by omega)];done) |(rw [cE (by omega) (by omega)];done) |(rw [cD (by omega) (by omega) (by omega)];done),rfl⟩
 refine Y.qg rfl rfl .z rfl rfl rfl (aR rfl (.t (.s16 .g10))) ?_
 refine Y.qg rfl rfl .g1 rfl rfl rfl (dZ rfl (.t .z)) ?_
 refine Y.qg rfl rfl .g2 rfl rfl rfl (aN rfl (.t .z) (fun _=>dH _ _)) ?_
 refine Y.qg rfl rfl .g3 rfl rfl rfl (aM rfl eZ (.t .z) (WS.el aa ab rfl)) ?_
 refine Y.qg rfl rfl .g4 rfl rfl rfl (bD rfl eF (.t .z)) ?_
 refine Y.qg rfl rfl .g5 rfl rfl rfl (fI rfl (.t .z) .c) ?_
 refine Y.qg rfl rfl (.s16 .g3) rfl rfl rfl (bH rfl (.t .g6) (.t .z)) ?_
 refine Y.ql rfl (bI rfl (.t (.s16 .g4)) (.t .z)) (Y.mv rfl .z ?_)
 refine Y.al .z (fun g7=> ?_) (fun g7=> ?_)
 refine Y.r rfl rfl .z rfl rfl (by decide) rfl ?_
 refine Y.r rfl rfl .g1 rfl rfl (by decide) rfl ?_
 refine Y.r rfl rfl .g2 rfl rfl (by decide) rfl ?_
 refine Y.r rfl rfl .g3 rfl rfl (by decide) rfl ?_
 refine Y.r rfl rfl .g4 rfl rfl (by decide) rfl ?_
 refine Y.r rfl rfl .g5 rfl rfl (by decide) rfl ?_
 refine Y.r rfl rfl .z rfl rfl (by decide) rfl ?_
 refine Y.r rfl rfl .g1 rfl rfl (by decide) rfl ?_
 refine Y.r rfl rfl .g2 rfl rfl (by decide) rfl ?_
 refine Y.r rfl rfl .g3 rfl rfl (by decide) rfl ?_
 refine Y.r rfl rfl .g4 rfl rfl (by decide) rfl ?_
 refine Y.r rfl rfl .g5 rfl rfl (by decide) rfl ?_
 refine Y.r rfl rfl .g12 rfl rfl (by decide) rfl ?_
 refine Y.ql rfl (bI rfl (.t .g13) .c) (Y.nt ?_)
 refine Y.aq (.t .z) ?_
 refine Y.seq (Y.region (Y.er (.s16 (.s16 .g16)) (Y.ql rfl (aA rfl .c) (Y.nt (Y.ret (Y.j ?_))))))
 refine Y.i (aU rfl .z) .n ?_
 exact⟨by first |(rw [cM (by assumption)];done) |(rw [cK (by omega)];done) |(rw [cL (by omega) (by omega)];done) |(rw [cN (by assumption) (by omega) (by omega) (by omega)];done) |(rw [cE (by omega) (by omega)];done) |(rw [cD (by omega) (by omega) (by omega)];done),rfl⟩
 refine Y.qg rfl rfl .z rfl rfl rfl (aR rfl (.t (.s16 (.s16 .g3)))) ?_
 refine Y.qg rfl rfl .g1 rfl rfl rfl (dZ rfl (.t .z)) ?_
 refine Y.qg rfl rfl .g2 rfl rfl rfl (aN rfl (.t .z) (fun _=>bS _ _)) ?_
 refine Y.qg rfl rfl .g3 rfl rfl rfl (aM rfl bP (.t .z) (WS.el aa ab rfl)) ?_
 refine Y.qg rfl rfl .g4 rfl rfl rfl (bW rfl (.t .z) .c) ?_
 refine Y.qg rfl rfl .g5 rfl rfl rfl (aR rfl (.t .z)) ?_
 refine Y.an .z (fun g8=> ?_) (fun g8=> ?_)
 refine Y.qg rfl rfl .z rfl rfl rfl (aR rfl (.t (.s16 (.s16 .g9)))) ?_
 refine Y.qg rfl rfl .g1 rfl rfl rfl (dZ rfl (.t .z)) ?_
 refine Y.qg rfl rfl .g2 rfl rfl rfl (aN rfl (.t .z) (fun _=>bL _ _)) ?_
 refine Y.qg rfl rfl .g3 rfl rfl rfl (aM rfl dX (.t .z) (WS.el aa ab rfl)) ?_
 refine Y.qg rfl rfl .g4 rfl rfl rfl (bD rfl dP (.t .z)) ?_
 refine Y.qg rfl rfl .g5 rfl rfl rfl (fI rfl (.t .z) .c) ?_
 refine Y.qg rfl rfl .g12 rfl rfl rfl (bI rfl (.t .g6) (.t .z)) ?_
 refine Y.ql rfl (bH rfl (.t .g13) (.t .z)) (Y.nt ?_)
 refine Y.u (.t .z) (fun b9=> ?_) (fun b9=> ?_)
 refine Y.seq (Y.region (Y.er (.s16 (.s16 .g16)) (Y.ql rfl (aA rfl .c) (Y.nt (Y.ret (Y.j ?_))))))
 refine Y.i (aU rfl .z) .n ?_
 exact⟨by first |(rw [cM (by assumption)];done) |(rw [cK (by omega)];done) |(rw [cL (by omega) (by omega)];done) |(rw [cN (by assumption) (by omega) (by omega) (by omega)];done) |(rw [cE (by omega) (by omega)];done) |(rw [cD (by omega) (by omega) (by omega)];done),rfl⟩
 refine Y.skip (Y.g (Y.seq (Y.seq (Y.region (Y.mv rfl (.s16 (.s16 (.s16 .g1))) (Y.nc rfl .z (Y.fa rfl .z bS (Y.le rfl bP .z aa ab ?_))))))))
 refine Y.nt (Y.block (Y.seq (Y.region (Y.ql rfl (bU rfl (.t .z) .c) (Y.as rfl .z (Y.nt ?_))))))
 refine Y.u (.t .z) (fun aw=> ?_) (fun aw=> ?_)
 exfalso;first | omega | contradiction
 refine Y.seq (Y.region (Y.ql rfl (bU rfl (.t .g2) .c) (Y.as rfl .z (Y.nt ?_))))
 refine Y.u (.t .z) (fun ax=> ?_) (fun ax=> ?_)
 exfalso;first | omega | contradiction
 refine Y.skip (Y.ab (Y.g (Y.seq (Y.region (Y.er (.s16 (.s16 (.s16 .g8))) (Y.ql rfl (aA rfl .c) (Y.nt ?_)))))))
 refine Y.ret ?_
 refine Y.i (aU rfl .z) .n ?_
 exact⟨by first |(rw [cM (by assumption)];done) |(rw [cK (by omega)];done) |(rw [cL (by omega) (by omega)];done) |(rw [cN (by assumption) (by omega) (by omega) (by omega)];done) |(rw [cE (by omega) (by omega)];done) |(rw [cD (by omega) (by omega) (by omega)];done),rfl⟩
 refine Y.r rfl rfl .z rfl rfl (by decide) rfl ?_
 refine Y.r rfl rfl .g1 rfl rfl (by decide) rfl ?_
 refine Y.r rfl rfl .g2 rfl rfl (by decide) rfl ?_
 refine Y.r rfl rfl .g3 rfl rfl (by decide) rfl ?_
 refine Y.r rfl rfl .g4 rfl rfl (by decide) rfl ?_
 refine Y.r rfl rfl .g5 rfl rfl (by decide) rfl ?_
 refine Y.qg rfl rfl .g12 rfl rfl rfl (bH rfl (.t .g6) .c) ?_
 refine Y.ql rfl (bH rfl (.t .g13) (.t .z)) (Y.nt ?_)
 refine Y.ap (.t .z) ?_
 refine Y.skip (Y.g (Y.seq (Y.seq (Y.region (Y.mv rfl (.s16 (.s16 (.s16 .g1))) (Y.nc rfl .z (Y.fa rfl .z bS (Y.le rfl bP .z aa ab ?_))))))))
 refine Y.nt (Y.block (Y.seq (Y.region (Y.ql rfl (bU rfl (.t .z) .c) (Y.as rfl .z (Y.nt ?_))))))
 refine Y.u (.t .z) (fun ay=> ?_) (fun ay=> ?_)
 exfalso;first | omega | contradiction
 refine Y.seq (Y.region (Y.ql rfl (bU rfl (.t .g2) .c) (Y.as rfl .z (Y.nt ?_))))
 refine Y.u (.t .z) (fun az=> ?_) (fun az=> ?_)
 refine Y.seq (Y.region (Y.mv rfl (.s16 (.s16 (.s16 .g9))) ?_))
 refine Y.cl rfl rfl Tryz.func88 rfl rfl (bG (.t .z)) .n (fun _ _ hs tr=>aNl (tr.ctxP h0)) ?_
 rintro _ _ ⟨rfl,rfl⟩
 refine Y.m .n ?_
 refine Y.er (.s16 (.s16 (.s16 .g10))) (Y.as rfl .z (Y.nt (Y.ret (Y.v (Y.j ?_)))))
 refine Y.i (aU rfl .z) .n ?_
 exact⟨by first |(rw [cM (by assumption)];done) |(rw [cK (by omega)];done) |(rw [cL (by omega) (by omega)];done) |(rw [cN (by assumption) (by omega) (by omega) (by omega)];done) |(rw [cE (by omega) (by omega)];done) |(rw [cD (by omega) (by omega) (by omega)];done),rfl⟩
 exfalso;first | omega | contradiction
 refine Y.r rfl rfl .z rfl rfl (by decide) rfl ?_
 refine Y.r rfl rfl .g1 rfl rfl (by decide) rfl ?_
 refine Y.r rfl rfl .g2 rfl rfl (by decide) rfl ?_
 refine Y.r rfl rfl .g3 rfl rfl (by decide) rfl ?_
 refine Y.r rfl rfl .g4 rfl rfl (by decide) rfl ?_
 refine Y.r rfl rfl .g5 rfl rfl (by decide) rfl ?_
 refine Y.r rfl rfl .z rfl rfl (by decide) rfl ?_
 refine Y.r rfl rfl .g1 rfl rfl (by decide) rfl ?_
 refine Y.r rfl rfl .g2 rfl rfl (by decide) rfl ?_
 refine Y.r rfl rfl .g3 rfl rfl (by decide) rfl ?_
 refine Y.r rfl rfl .g4 rfl rfl (by decide) rfl ?_
 refine Y.r rfl rfl .g11 rfl rfl (by decide) rfl ?_
 refine Y.r rfl rfl .g12 rfl rfl (by decide) rfl ?_
 refine Y.r rfl rfl .z rfl rfl (by decide) rfl ?_
 refine Y.r rfl rfl .g1 rfl rfl (by decide) rfl ?_
 refine Y.r rfl rfl .g2 rfl rfl (by decide) rfl ?_
 refine Y.r rfl rfl .g3 rfl rfl (by decide) rfl ?_
 refine Y.r rfl rfl .g4 rfl rfl (by decide) rfl ?_
 refine Y.r rfl rfl .g5 rfl rfl (by decide) rfl ?_
 refine Y.r rfl rfl (.s16 .g3) rfl rfl (by decide) rfl ?_
 refine Y.ql rfl (bH rfl (.t (.s16 .g4)) .c) (Y.mv rfl .z ?_)
 refine Y.qg rfl rfl .z rfl rfl rfl (aR rfl (.t (.s16 (.s16 .g3)))) ?_
 refine Y.qg rfl rfl .g1 rfl rfl rfl (dZ rfl (.t .z)) ?_
 refine Y.qg rfl rfl .g2 rfl rfl rfl (aN rfl (.t .z) (fun _=>bS _ _)) ?_
 refine Y.qg rfl rfl .g3 rfl rfl rfl (aM rfl bP (.t .z) (WS.el aa ab rfl)) ?_
 refine Y.qg rfl rfl .g4 rfl rfl rfl (bW rfl (.t .z) .c) ?_
 refine Y.qg rfl rfl .g5 rfl rfl rfl (aR rfl (.t .z)) ?_
 refine Y.an .z (fun g14=> ?_) (fun g14=> ?_)
 refine Y.qg rfl rfl .z rfl rfl rfl (aR rfl (.t (.s16 (.s16 .g9)))) ?_
 refine Y.qg rfl rfl .g1 rfl rfl rfl (dZ rfl (.t .z)) ?_
 refine Y.qg rfl rfl .g2 rfl rfl rfl (aN rfl (.t .z) (fun _=>bL _ _)) ?_
 refine Y.qg rfl rfl .g3 rfl rfl rfl (aM rfl dX (.t .z) (WS.el aa ab rfl)) ?_
 refine Y.qg rfl rfl .g4 rfl rfl rfl (bD rfl dP (.t .z)) ?_
 refine Y.qg rfl rfl .g5 rfl rfl rfl (fI rfl (.t .z) .c) ?_
 refine Y.qg rfl rfl .g12 rfl rfl rfl (bI rfl (.t .g6) (.t .z)) ?_
 refine Y.ql rfl (bH rfl (.t .g13) (.t .z)) (Y.nt ?_)
 refine Y.u (.t .z) (fun a0=> ?_) (fun a0=> ?_)
 refine Y.seq (Y.region (Y.er (.s16 (.s16 .g16)) (Y.ql rfl (aA rfl .c) (Y.nt (Y.ret (Y.j ?_))))))
 refine Y.i (aU rfl .z) .n ?_
 exact⟨by first |(rw [cM (by assumption)];done) |(rw [cK (by omega)];done) |(rw [cL (by omega) (by omega)];done) |(rw [cN (by assumption) (by omega) (by omega) (by omega)];done) |(rw [cE (by omega) (by omega)];done) |(rw [cD (by omega) (by omega) (by omega)];done),rfl⟩
 refine Y.skip (Y.g (Y.seq (Y.seq (Y.region (Y.mv rfl (.s16 (.s16 (.s16 .g1))) (Y.nc rfl .z (Y.fa rfl .z bS (Y.le rfl bP .z aa ab ?_))))))))
 refine Y.nt (Y.block (Y.seq (Y.region (Y.ql rfl (bU rfl (.t .z) .c) (Y.as rfl .z (Y.nt ?_))))))
 refine Y.u (.t .z) (fun a1=> ?_) (fun a1=> ?_)
 refine Y.seq (Y.region (Y.mv rfl (.s16 (.s16 (.s16 .g7))) ?_))
 refine Y.cl rfl rfl Tryz.func87 rfl rfl (bG (.t .z)) .n (fun _ _ hs tr=>aOa (tr.ctxP h0)) ?_
 rintro _ _ ⟨rfl,rfl⟩
 refine Y.m .n ?_
 refine Y.er (.s16 (.s16 (.s16 .g8))) (Y.as rfl .z (Y.nt (Y.ret (Y.v (Y.j ?_)))))
 refine Y.i (aU rfl .z) .n ?_
 exact⟨by first |(rw [cM (by assumption)];done) |(rw [cK (by omega)];done) |(rw [cL (by omega) (by omega)];done) |(rw [cN (by assumption) (by omega) (by omega) (by omega)];done) |(rw [cE (by omega) (by omega)];done) |(rw [cD (by omega) (by omega) (by omega)];done),rfl⟩
 exfalso;first | omega | contradiction
 exfalso;first | omega | contradiction

theorem aO0 {w0:World}{S0:Bs}{xs:(List aF)}{v0:Value} (h0:bJ.ro w0 (FF w0 S0) xs [v0]):
    Calls Tryz.prog 90 #[v0] w0 (aI w0 S0 (fun r l=>r= .int .i64 (aZ xs)∧l= [])):=by
 obtain⟨A0,c0,rfl,a1,a2,a3,ay⟩:=aD h0
 refine Y.enter (N:=21) Tryz.func90 rfl rfl (by simp) [(0,.slice A0 xs.length c0)] (by simp) (l0:= []) trivial ?_
 refine Y.seq (Y.region (Y.ql rfl (aA rfl .c) (Y.nt (Y.seq (Y.seq (Y.region (Y.mv rfl .g1 ?_)))))))
 refine Y.ql rfl (bD rfl cQ (.t .z)) (Y.ql rfl (fI rfl (.t .z) .c) (Y.nt ?_))
 refine Y.u (.t .z) (fun b2=> ?_) (fun b2=> ?_)
 refine Y.seq (Y.region (Y.er .g3 (Y.ql rfl (aA rfl .c) (Y.nt (Y.ret (Y.j ?_))))))
 refine Y.i (aU rfl .z) .n ?_
 exact⟨by first |(rw [jZ (by assumption)];done) |(rw [iV (by assumption) (fun j y hj hy=>hallk j y (by omega) hy)];done),rfl⟩
 refine Y.skip (Y.g (Y.seq (Y.seq (Y.region (Y.mv rfl .g4 (Y.ql rfl (bD rfl cQ (.t .z)) (Y.ql rfl (aR rfl .c) (Y.nil ?_))))))))
 refine Y.g (Y.block ?_)
 refine Y.ai (γ:=Nat) (fun k=> [(11,.int .i64 (k:Int)),(10,.int .i64 (xs.length:Int)),(9,.slice A0 xs.length c0)]) (fun k=> []) (fun k=>k≤xs.length∧∀j y,j<k→xs[j]? =some y→cH y=0) (fun k=>xs.length - k) 0 ⟨Nat.zero_le _,eN (q:=fun _ y=>cH y=0)⟩ (.c .z (.c .g1 (.c .g2 .n))) (fun _ h=>h) ?_
 rintro k ⟨hk,hallk⟩
 refine Y.seq (Y.region (Y.ql rfl (dA rfl (.t .z) (.t .g1)) (Y.nt (Y.seq ?_))))
 refine Y.u (.t .z) (fun b3=> ?_) (fun b3=> ?_)
 refine Y.skip (Y.g (Y.seq (Y.block (Y.seq (Y.region ?_)))))
 obtain⟨a4,ac,ad⟩:=ay (by omega)
 subst ac
 obtain⟨x5,ae⟩:=aK (xs:=xs) (j:=k) (by omega)
 obtain⟨az,af,ag,ah⟩:=ad.elem ae
 obtain⟨aq,ar,rfl,aa,ab⟩:=bY af
 obtain⟨au,av,rfl,ai,aj,ak,al⟩:=aD aa
 obtain⟨aw,ax,rfl,am,an,ao,ap⟩:=aD ab
 refine Y.ql rfl (aB (j:=k) rfl cQ aT (.t .g3) (.t .g1) rfl (by omega)) ?_
 refine Y.ql rfl (qE rfl fH (.t .z) ag ah aT) ?_
 refine Y.el rfl (bB rfl sX rfl rfl) ?_
 rintro _ _ ⟨g9,rfl,rfl⟩
 refine Y.es (aE rfl) rfl (esW rfl (.t .z) (.t .g1) .z aT rfl rfl) ?_
 refine Y.nt (Y.seq (Y.region (Y.ql rfl (qW rfl fH (.t .z) .z aT) ?_)))
 refine Y.cl rfl rfl Tryz.func120 rfl rfl (bG (.t .z)) .n (fun _ _ hs tr=>aMb (iU x5 (tr.ctx aa) (tr.ctx ab))) ?_
 rintro _ _ ⟨rfl,rfl⟩
 refine Y.m .n ?_
 refine Y.as rfl .z (Y.nt (Y.seq (Y.region (Y.mv rfl .z (Y.ql rfl (bW rfl (.t .z) .c) (Y.nt ?_))))))
 refine Y.ac (.t .z) (fun a0=> ?_) (fun a0=> ?_)
 refine Y.seq (Y.region (Y.mv rfl .g2 (Y.as rfl .z (Y.nt (Y.ret (Y.v (Y.j ?_)))))))
 refine Y.j (Y.v (Y.j ?_))
 refine Y.i (aU rfl .z) .n ?_
 exact⟨by first |(rw [jZ (by assumption)];done) |(rw [sJ (by assumption) ae (by assumption) hallk];done) |(rw [iV (by assumption) (fun j y hj hy=>hallk j y (by omega) hy)];done),rfl⟩
 refine Y.skip (Y.ab (Y.g (Y.region ?_)))
 refine Y.ql rfl (bN (c:=((k+1:Nat):Int)) rfl (.t .g9) .c (wr (by omega) (by omega) (by omega))) ?_
 refine Y.er .g10 (Y.mv rfl .z (Y.nil ?_))
 refine Y.ae (k+1) ⟨by omega,dS (q:=fun _ y=>cH y=0) hallk ae (by first | assumption | omega)⟩ (by first | omega |(dsimp only;omega)) (.c .z (.c .g11 (.c .g12 .n))) (fun _ h=>h.sel .n)
 refine Y.exit (Y.y (Y.y (Y.ag (Y.g (Y.seq (Y.region (Y.ql rfl (aA rfl .c) (Y.nil ?_))))))))
 refine Y.g (Y.ret ?_)
 refine Y.i (aU rfl .z) .n ?_
 exact⟨by first |(rw [jZ (by assumption)];done) |(rw [iV (by assumption) (fun j y hj hy=>hallk j y (by omega) hy)];done),rfl⟩

theorem aNh {w0:World}{S0:Bs}{xs:(List aF)}{v0:Value} (h0:bJ.ro w0 (FF w0 S0) xs [v0]):
    Calls Tryz.prog 69 #[v0] w0 (aI w0 S0 (fun r l=>r= .int .i64 (aZ xs)∧l= [])):=by
 obtain⟨A0,c0,rfl,a0,a1,a2,ay⟩:=aD h0
 refine Y.enter (N:=21) Tryz.func69 rfl rfl (by simp) [(0,.slice A0 xs.length c0)] (by simp) (l0:= []) trivial ?_
 refine Y.seq (Y.region (Y.ql rfl (aA rfl .c) (Y.nt (Y.seq (Y.seq (Y.region (Y.mv rfl .g1 ?_)))))))
 refine Y.ql rfl (bD rfl cQ (.t .z)) (Y.ql rfl (fI rfl (.t .z) .c) (Y.nt ?_))
 refine Y.u (.t .z) (fun b2=> ?_) (fun b2=> ?_)
 refine Y.seq (Y.region (Y.er .g3 (Y.ql rfl (aA rfl .c) (Y.nt (Y.ret (Y.j ?_))))))
 refine Y.i (aU rfl .z) .n ?_
 exact⟨by first |(rw [jZ (by assumption)];done) |(rw [iV (by assumption) (fun j y hj hy=>hallk j y (by omega) hy)];done),rfl⟩
 refine Y.skip (Y.g (Y.seq (Y.seq (Y.region (Y.ql rfl (aA rfl .c) (Y.nt (Y.block ?_)))))))
 refine Y.ai (γ:=Nat) (fun k=> [(3,.int .i64 (k:Int)),(0,.slice A0 xs.length c0)]) (fun k=> []) (fun k=>k≤xs.length∧∀j y,j<k→xs[j]? =some y→cH y=0) (fun k=>xs.length - k) 0 ⟨Nat.zero_le _,eN (q:=fun _ y=>cH y=0)⟩ (.c .z (.c .g5 .n)) (fun _ h=>h) ?_
 rintro k ⟨hk,hallk⟩
 refine Y.seq (Y.seq (Y.region (Y.mv rfl .z (Y.mv rfl .g2 (Y.ql rfl (bD rfl cQ (.t .z)) (Y.ql rfl (dA rfl (.t .g2) (.t .z)) (Y.nt ?_)))))))
 refine Y.u (.t .z) (fun b3=> ?_) (fun b3=> ?_)
 refine Y.skip (Y.g (Y.seq (Y.block (Y.seq (Y.region (Y.mv rfl .g5 (Y.mv rfl .g5 ?_)))))))
 obtain⟨a3,aa,ab⟩:=ay (by omega)
 subst aa
 obtain⟨x5,af⟩:=aK (xs:=xs) (j:=k) (by omega)
 obtain⟨az,ac,ag,ah⟩:=ab.elem af
 obtain⟨aq,ar,rfl,ad,ae⟩:=bY ac
 obtain⟨au,av,rfl,ai,aj,ak,al⟩:=aD ad
 obtain⟨aw,ax,rfl,am,an,ao,ap⟩:=aD ae
 refine Y.ql rfl (aB (j:=k) rfl cQ aT (.t .g1) (.t .z) rfl (by omega)) ?_
 refine Y.cl rfl rfl Tryz.func57 rfl rfl (bG (.t .z)) .n (fun _ _ hs tr=>aLg (tr.el ag ac ah)) ?_
 rintro _ _ ⟨rfl,rfl⟩
 refine Y.m .n ?_
 refine Y.as rfl .z (Y.nt (Y.seq (Y.region (Y.mv rfl .z (Y.ql rfl (bW rfl (.t .z) .c) (Y.nt ?_))))))
 refine Y.ac (.t .z) (fun b9=> ?_) (fun b9=> ?_)
 refine Y.seq (Y.region (Y.mv rfl .g2 (Y.as rfl .z (Y.nt (Y.ret (Y.v (Y.j ?_)))))))
 refine Y.j (Y.v (Y.j ?_))
 refine Y.i (aU rfl .z) .n ?_
 exact⟨by first |(rw [jZ (by assumption)];done) |(rw [sJ (by assumption) af (by assumption) hallk];done) |(rw [iV (by assumption) (fun j y hj hy=>hallk j y (by omega) hy)];done),rfl⟩
 refine Y.skip (Y.ab (Y.g (Y.region (Y.mv rfl .g11 ?_))))
 refine Y.ql rfl (bN (c:=((k+1:Nat):Int)) rfl (.t .z) .c (wr (by omega) (by omega) (by omega))) ?_
 refine Y.er .g13 (Y.as rfl .z (Y.nil ?_))
 refine Y.ae (k+1) ⟨by omega,dS (q:=fun _ y=>cH y=0) hallk af (by first | assumption | omega)⟩ (by first | omega |(dsimp only;omega)) (.c .z (.c .g14 .n)) (fun _ h=>h)
 refine Y.exit (Y.y (Y.y (Y.ag (Y.g (Y.seq (Y.region (Y.ql rfl (aA rfl .c) (Y.nil ?_))))))))
 refine Y.g (Y.ret ?_)
 refine Y.i (aU rfl .z) .n ?_
 exact⟨by first |(rw [jZ (by assumption)];done) |(rw [iV (by assumption) (fun j y hj hy=>hallk j y (by omega) hy)];done),rfl⟩

end Go.Proofs.YtmejbfmhaoilmaaGreatDoor

/- What is proved: contracts of functions, one a function. No condition. -/
import Derived.Test.YtmejbfmhaoilmaaGreatBase1
import Derived.Test.YtmejbfmhaoilmaaGreatW34
import Derived.Test.YtmejbfmhaoilmaaGreatBase2
namespace Go.Proofs.YtmejbfmhaoilmaaGreat
open Go Go.RowKit
set_option linter.unusedVariables false
set_option linter.unusedSimpArgs false
set_option maxHeartbeats 1000000
set_option maxRecDepth 20000
theorem aJ1 {w0:World}{S0:Bs}{x:(List aQ)}{v0:Value} (i:Nat) {ys:(List aQ)}{v2:Value} (hs:cB [aG cP x [v0],aG cP ys [v2]] w0 S0) (hi:i≤x.length) (hy:0<ys.length) (ao:x.length≤64) (bb:ys.length≤8):
    Calls Tryz.prog 150 #[v0,.int .i64 (i:Int),v2] w0 (aJ w0 S0 (fun r l=>l= [aG cP (List.take i x++ys++List.drop i x) [r]])):=by
 refine Y.enter (N:=95) Tryz.func150 rfl rfl (by simp) [(0,v0),(1,.int .i64 (i:Int)),(2,v2)] (by simp) hs ?_
 refine Y.h (WS.a .z) ?_
 rintro⟨ai,aj,rfl,ap,aq,ar⟩
 refine Y.h (WS.a .g1) ?_
 rintro⟨bc,bd,rfl,au,av,aw⟩
 refine Y.seq (Y.region (Y.ql rfl (aA rfl .c) (Y.nt (Y.seq (Y.region (Y.mv rfl .g1 (Y.mv rfl .g3 ?_)))))))
 obtain⟨be,ah⟩:∃A':Option Addr,A'=(if aj=i then ai else Option.map (fun z=>Addr.add z (i * 2)) ai):=⟨_,rfl⟩
 have bf:=fR (xs:=x) (a:=i) (b:=x.length) (by omega)
 have bg:True:=trivial
 refine Y.ql rfl (iN (a:=i) (b:=x.length) rfl cZ dV (.t .g1) ah (.inr ⟨_,_,rfl,(.t .z)⟩) (.inl ⟨rfl,rfl⟩) (by omega) (by omega) (by omega)) ?_
 refine Y.nt (Y.seq (Y.region (Y.mv rfl .g6 (Y.ql rfl (bM rfl cZ (.t .z)) (Y.as rfl .z (Y.nt ?_))))))
 refine Y.seq (Y.seq (Y.region (Y.mv rfl .z (Y.ql rfl (bZ rfl (.t .z) .c) (Y.nt ?_)))))
 refine Y.u (.t .z) (fun b5=> ?_) (fun b5=> ?_)
 exfalso;omega
 refine Y.h (WS.i .g1 (by omega)) ?_
 rintro⟨bh,rfl⟩
 refine Y.skip (Y.g (Y.seq (Y.region (Y.mv rfl .g9 (Y.ql rfl (bM rfl cZ (.t .z)) (Y.as rfl .z (Y.nt ?_)))))))
 refine Y.seq (Y.seq (Y.region (Y.mv rfl .g13 (Y.mv rfl .g1 (Y.ql rfl (bZ rfl (.t .g1) (.t .z)) (Y.nt ?_))))))
 refine Y.u (.t .z) (fun b7=> ?_) (fun b7=> ?_)
 refine Y.seq (Y.region (Y.mv rfl .g15 (Y.mv rfl (.s16 .g2) ?_)))
 refine Y.el rfl (eG (fS _ (eX (bC _ _ _) (bC _ _ _))) rfl cZ eF rfl (.t .g1) (.t .z) (.c .z .n) (fun w1 S1 tr=>tr.own .z) (by first | omega |(simp only [List.length_append,List.length_take,List.length_nil,List.length_cons];omega)) (by first | omega |(simp only [List.length_append,List.length_take,List.length_nil,List.length_cons];omega))) ?_
 rintro _ _ rfl
 refine Y.h (WS.a .z) ?_
 rintro⟨bi,bj,rfl,ax,ay,az⟩
 refine Y.er (.s16 .g1) (Y.as rfl .z (Y.nt (Y.ret (Y.r ?_))))
 refine Y.af (x':=List.take i x++ys++List.drop i x) .z (aIq (by omega)) ?_
 refine Y.i (aY rfl .z) (.c .z .n) ?_
 rfl
 refine Y.h (WS.i .z (by omega)) ?_
 rintro⟨ak,rfl⟩
 refine Y.skip (Y.g (Y.seq (Y.seq (Y.region (Y.mv rfl .g3 (Y.mv rfl .g9 ?_))))))
 refine Y.ql rfl (bQ (c:=((x.length+ys.length:Nat):Int)) rfl (.t .g1) (.t .z) (wr (by omega) (by omega) (by omega))) ?_
 refine Y.mv rfl (.s16 .g2) (Y.ql rfl (aMg rfl cZ (.t .z)) (Y.ql rfl (gO rfl (.t .g2) (.t .z)) (Y.nt ?_)))
 refine Y.u (.t .z) (fun a0=> ?_) (fun a0=> ?_)
 refine Y.seq (Y.region (Y.mv rfl (.s16 .g5) (Y.mv rfl (.s16 .g7) ?_)))
 refine Y.ql rfl (vM (b:=i) rfl cZ dV (.t .g1) (.t .z) (by omega)) ?_
 refine Y.mv rfl .g12 (Y.mv rfl (.s16 .g2) ?_)
 refine Y.ql rfl (bQ (c:=((x.length+ys.length:Nat):Int)) rfl (.t .g1) (.t .z) (wr (by omega) (by omega) (by omega))) ?_
 refine Y.mv rfl (.s16 .g12) ?_
 refine Y.ql rfl (jL (c:=((x.length+ys.length:Nat):Int) - (i:Int)) rfl (.t .g1) (.t .z) (wr (by omega) (by omega) (by omega))) ?_
 refine Y.eq .z (congrArg (Value.int .i64) (show((x.length+ys.length:Nat):Int) - (i:Int)=((x.length+ys.length - i:Nat):Int) by omega)) ?_
 refine Y.el rfl (zZ (i:=i) (x0:=(⟨⟨#[]⟩,0⟩:aQ)) (fS _ (eX (bC _ _ _) (bC _ _ _))) rfl cZ u_3 eF rfl (fun w S=>aIo w S) (.t .g5) (.t .z) (.c .z .n) (by omega) (by omega) (by omega) (by omega) (by omega)) ?_
 rintro _ _ rfl
 have hXl:(List.take i x++List.replicate (x.length+ys.length - i) (⟨⟨#[]⟩,0⟩:aQ)).length=x.length+ys.length:=by rw [List.length_append,List.length_take,List.length_replicate];omega
 refine Y.h (WS.a .z) ?_
 rintro⟨a1,ab,rfl,al,am,an⟩
 refine Y.h (WS.i .z (by omega)) ?_
 rintro⟨aa,rfl⟩
 refine Y.as rfl .z (Y.nt (Y.seq (Y.region (Y.mv rfl .z (Y.mv rfl (.s16 (.s16 .g1)) ?_)))))
 obtain⟨a2,ae⟩:∃A':Option Addr,A'=(if ab=i then(some aa)else Option.map (fun z=>Addr.add z (i * 2)) (some aa)):=⟨_,rfl⟩
 have a3:=fR (xs:=List.take i x++List.replicate (x.length+ys.length - i) (⟨⟨#[]⟩,0⟩:aQ)) (a:=i) (b:=(List.take i x++List.replicate (x.length+ys.length - i) (⟨⟨#[]⟩,0⟩:aQ)).length) (by omega)
 have a4:True:=trivial
 refine Y.ql rfl (iN (a:=i) (b:=(List.take i x++List.replicate (x.length+ys.length - i) (⟨⟨#[]⟩,0⟩:aQ)).length) rfl cZ dV (.t .g1) ae (.inr ⟨_,_,rfl,(.t .z)⟩) (.inl ⟨rfl,rfl⟩) (by omega) (by omega) (by omega)) ?_
 refine Y.mv rfl (.s16 (.s16 .g4)) ?_
 refine Y.el rfl (aEv (i:=i) (xs:=List.take i x++List.replicate (x.length+ys.length - i) (⟨⟨#[]⟩,0⟩:aQ)) (ys:=ys) (fS _ (eX (bC _ _ _) (bC _ _ _))) rfl cZ dV (aD7 (.t .g1)) (ae.trans (by split <;> rfl)) (.t .z) (.c .z .n) (fun w1 S1 tr=>(tr.own .g1)) (by first | omega |(simp only [List.length_append,List.length_take,List.length_drop,List.length_replicate];omega)) (by omega)) ?_
 rintro _ _ ⟨rfl,rfl⟩
 have ad:(List.take i (List.take i x++List.replicate (x.length+ys.length - i) (⟨⟨#[]⟩,0⟩:aQ))++ys++List.drop (i+ys.length) (List.take i x++List.replicate (x.length+ys.length - i) (⟨⟨#[]⟩,0⟩:aQ))).length=(List.take i x++List.replicate (x.length+ys.length - i) (⟨⟨#[]⟩,0⟩:aQ)).length:=by simp only [List.length_append,List.length_take,List.length_drop,List.length_replicate];omega
 refine Y.ak .z (show(aG cP (List.take i (List.take i x++List.replicate (x.length+ys.length - i) (⟨⟨#[]⟩,0⟩:aQ))++ys++List.drop (i+ys.length) (List.take i x++List.replicate (x.length+ys.length - i) (⟨⟨#[]⟩,0⟩:aQ))) [.slice (some aa) (List.take i x++List.replicate (x.length+ys.length - i) (⟨⟨#[]⟩,0⟩:aQ)).length ab]:Asn)=aG cP (List.take i (List.take i x++List.replicate (x.length+ys.length - i) (⟨⟨#[]⟩,0⟩:aQ))++ys++List.drop (i+ys.length) (List.take i x++List.replicate (x.length+ys.length - i) (⟨⟨#[]⟩,0⟩:aQ))) [.slice (some aa) (List.take i (List.take i x++List.replicate (x.length+ys.length - i) (⟨⟨#[]⟩,0⟩:aQ))++ys++List.drop (i+ys.length) (List.take i x++List.replicate (x.length+ys.length - i) (⟨⟨#[]⟩,0⟩:aQ))).length ab] by rw [←ad]) ?_
 refine Y.eq .g4 (show(.slice (some aa) (List.take i x++List.replicate (x.length+ys.length - i) (⟨⟨#[]⟩,0⟩:aQ)).length ab:Value)= .slice (some aa) (List.take i (List.take i x++List.replicate (x.length+ys.length - i) (⟨⟨#[]⟩,0⟩:aQ))++ys++List.drop (i+ys.length) (List.take i x++List.replicate (x.length+ys.length - i) (⟨⟨#[]⟩,0⟩:aQ))).length ab by rw [←ad]) ?_
 refine Y.eq .g5 (show(.slice (some aa) (List.take i x++List.replicate (x.length+ys.length - i) (⟨⟨#[]⟩,0⟩:aQ)).length ab:Value)= .slice (some aa) (List.take i (List.take i x++List.replicate (x.length+ys.length - i) (⟨⟨#[]⟩,0⟩:aQ))++ys++List.drop (i+ys.length) (List.take i x++List.replicate (x.length+ys.length - i) (⟨⟨#[]⟩,0⟩:aQ))).length ab by rw [←ad]) ?_
 refine Y.eq .g6 (show(.slice (some aa) (List.take i x++List.replicate (x.length+ys.length - i) (⟨⟨#[]⟩,0⟩:aQ)).length ab:Value)= .slice (some aa) (List.take i (List.take i x++List.replicate (x.length+ys.length - i) (⟨⟨#[]⟩,0⟩:aQ))++ys++List.drop (i+ys.length) (List.take i x++List.replicate (x.length+ys.length - i) (⟨⟨#[]⟩,0⟩:aQ))).length ab by rw [←ad]) ?_
 refine Y.nt (Y.seq ?_)
 refine Y.dr .g3 9 gG ?_
 refine Y.sc (qs 0 8++ [(8,false)]) (by kernel_rfl) ?_
 refine Y.dm rfl rfl .g3 .g1 (Y.dm rfl rfl .g3 (.s16 (.s16 .g6)) (Y.dm rfl rfl .g3 (.s16 .g15) ?_))
 refine Y.dk rfl rfl .g3 (bQ (c:=((i+ys.length:Nat):Int)) rfl (.t .g1) (.t .z) (wr (by omega) (by omega) (by omega))) ?_
 obtain⟨a5,af⟩:∃A':Option Addr,A'=(if ab=i+ys.length then(some aa)else Option.map (fun z=>Addr.add z ((i+ys.length) * 2)) (some aa)):=⟨_,rfl⟩
 have a6:=fR (xs:=List.take i (List.take i x++List.replicate (x.length+ys.length - i) (⟨⟨#[]⟩,0⟩:aQ))++ys++List.drop (i+ys.length) (List.take i x++List.replicate (x.length+ys.length - i) (⟨⟨#[]⟩,0⟩:aQ))) (a:=i+ys.length) (b:=(List.take i (List.take i x++List.replicate (x.length+ys.length - i) (⟨⟨#[]⟩,0⟩:aQ))++ys++List.drop (i+ys.length) (List.take i x++List.replicate (x.length+ys.length - i) (⟨⟨#[]⟩,0⟩:aQ))).length) (by omega)
 have a7:True:=trivial
 refine Y.dk rfl rfl .g3 (iN (a:=i+ys.length) (b:=(List.take i (List.take i x++List.replicate (x.length+ys.length - i) (⟨⟨#[]⟩,0⟩:aQ))++ys++List.drop (i+ys.length) (List.take i x++List.replicate (x.length+ys.length - i) (⟨⟨#[]⟩,0⟩:aQ))).length) rfl cZ dV (.t .g3) af (.inr ⟨_,_,rfl,(.t .z)⟩) (.inl ⟨rfl,rfl⟩) (by omega) (by omega) (by omega)) ?_
 refine Y.dm rfl rfl .g3 (.s16 (.s16 .g9)) (Y.dm rfl rfl .g3 (.s16 (.s16 .g11)) ?_)
 obtain⟨a8,ag⟩:∃A':Option Addr,A'=(if aj=i then(some ak)else Option.map (fun z=>Addr.add z (i * 2)) (some ak)):=⟨_,rfl⟩
 have a9:=fR (xs:=x) (a:=i) (b:=x.length) (by omega)
 have ba:True:=trivial
 refine Y.dk rfl rfl .g3 (iN (a:=i) (b:=x.length) rfl cZ dV (.t .g1) ag (.inr ⟨_,_,rfl,(.t .z)⟩) (.inl ⟨rfl,rfl⟩) (by omega) (by omega) (by omega)) ?_
 refine Y.e (aE rfl rfl) rfl (by decide) rfl (aEv (i:=i+ys.length) (xs:=List.take i (List.take i x++List.replicate (x.length+ys.length - i) (⟨⟨#[]⟩,0⟩:aQ))++ys++List.drop (i+ys.length) (List.take i x++List.replicate (x.length+ys.length - i) (⟨⟨#[]⟩,0⟩:aQ))) (ys:=(fY x i x.length)) (fS _ (eX (bC _ _ _) (bC _ _ _))) rfl cZ dV (aD7 (.t .g3)) (af.trans (by split <;> rfl)) (.t .z) (.c .z .n) (fun w1 S1 tr=>(nK (a:=i) (b:=x.length) ag (tr.own .z) (by omega) (by omega))) (by first | omega |(simp only [List.length_append,List.length_take,List.length_drop,List.length_replicate];omega)) (by omega)) ?_
 rintro _ _ ⟨rfl,rfl⟩
 have ac:(List.take (i+ys.length) (List.take i (List.take i x++List.replicate (x.length+ys.length - i) (⟨⟨#[]⟩,0⟩:aQ))++ys++List.drop (i+ys.length) (List.take i x++List.replicate (x.length+ys.length - i) (⟨⟨#[]⟩,0⟩:aQ)))++(fY x i x.length)++List.drop (i+ys.length+(fY x i x.length).length) (List.take i (List.take i x++List.replicate (x.length+ys.length - i) (⟨⟨#[]⟩,0⟩:aQ))++ys++List.drop (i+ys.length) (List.take i x++List.replicate (x.length+ys.length - i) (⟨⟨#[]⟩,0⟩:aQ)))).length=(List.take i (List.take i x++List.replicate (x.length+ys.length - i) (⟨⟨#[]⟩,0⟩:aQ))++ys++List.drop (i+ys.length) (List.take i x++List.replicate (x.length+ys.length - i) (⟨⟨#[]⟩,0⟩:aQ))).length:=by simp only [List.length_append,List.length_take,List.length_drop,List.length_replicate];omega
 refine Y.ak .z (show(aG cP (List.take (i+ys.length) (List.take i (List.take i x++List.replicate (x.length+ys.length - i) (⟨⟨#[]⟩,0⟩:aQ))++ys++List.drop (i+ys.length) (List.take i x++List.replicate (x.length+ys.length - i) (⟨⟨#[]⟩,0⟩:aQ)))++(fY x i x.length)++List.drop (i+ys.length+(fY x i x.length).length) (List.take i (List.take i x++List.replicate (x.length+ys.length - i) (⟨⟨#[]⟩,0⟩:aQ))++ys++List.drop (i+ys.length) (List.take i x++List.replicate (x.length+ys.length - i) (⟨⟨#[]⟩,0⟩:aQ)))) [.slice (some aa) (List.take i (List.take i x++List.replicate (x.length+ys.length - i) (⟨⟨#[]⟩,0⟩:aQ))++ys++List.drop (i+ys.length) (List.take i x++List.replicate (x.length+ys.length - i) (⟨⟨#[]⟩,0⟩:aQ))).length ab]:Asn)=aG cP (List.take (i+ys.length) (List.take i (List.take i x++List.replicate (x.length+ys.length - i) (⟨⟨#[]⟩,0⟩:aQ))++ys++List.drop (i+ys.length) (List.take i x++List.replicate (x.length+ys.length - i) (⟨⟨#[]⟩,0⟩:aQ)))++(fY x i x.length)++List.drop (i+ys.length+(fY x i x.length).length) (List.take i (List.take i x++List.replicate (x.length+ys.length - i) (⟨⟨#[]⟩,0⟩:aQ))++ys++List.drop (i+ys.length) (List.take i x++List.replicate (x.length+ys.length - i) (⟨⟨#[]⟩,0⟩:aQ)))) [.slice (some aa) (List.take (i+ys.length) (List.take i (List.take i x++List.replicate (x.length+ys.length - i) (⟨⟨#[]⟩,0⟩:aQ))++ys++List.drop (i+ys.length) (List.take i x++List.replicate (x.length+ys.length - i) (⟨⟨#[]⟩,0⟩:aQ)))++(fY x i x.length)++List.drop (i+ys.length+(fY x i x.length).length) (List.take i (List.take i x++List.replicate (x.length+ys.length - i) (⟨⟨#[]⟩,0⟩:aQ))++ys++List.drop (i+ys.length) (List.take i x++List.replicate (x.length+ys.length - i) (⟨⟨#[]⟩,0⟩:aQ)))).length ab] by rw [←ac]) ?_
 refine Y.eq .g8 (show(.slice (some aa) (List.take i (List.take i x++List.replicate (x.length+ys.length - i) (⟨⟨#[]⟩,0⟩:aQ))++ys++List.drop (i+ys.length) (List.take i x++List.replicate (x.length+ys.length - i) (⟨⟨#[]⟩,0⟩:aQ))).length ab:Value)= .slice (some aa) (List.take (i+ys.length) (List.take i (List.take i x++List.replicate (x.length+ys.length - i) (⟨⟨#[]⟩,0⟩:aQ))++ys++List.drop (i+ys.length) (List.take i x++List.replicate (x.length+ys.length - i) (⟨⟨#[]⟩,0⟩:aQ)))++(fY x i x.length)++List.drop (i+ys.length+(fY x i x.length).length) (List.take i (List.take i x++List.replicate (x.length+ys.length - i) (⟨⟨#[]⟩,0⟩:aQ))++ys++List.drop (i+ys.length) (List.take i x++List.replicate (x.length+ys.length - i) (⟨⟨#[]⟩,0⟩:aQ)))).length ab by rw [←ac]) ?_
 refine Y.eq .g9 (show(.slice (some aa) (List.take i (List.take i x++List.replicate (x.length+ys.length - i) (⟨⟨#[]⟩,0⟩:aQ))++ys++List.drop (i+ys.length) (List.take i x++List.replicate (x.length+ys.length - i) (⟨⟨#[]⟩,0⟩:aQ))).length ab:Value)= .slice (some aa) (List.take (i+ys.length) (List.take i (List.take i x++List.replicate (x.length+ys.length - i) (⟨⟨#[]⟩,0⟩:aQ))++ys++List.drop (i+ys.length) (List.take i x++List.replicate (x.length+ys.length - i) (⟨⟨#[]⟩,0⟩:aQ)))++(fY x i x.length)++List.drop (i+ys.length+(fY x i x.length).length) (List.take i (List.take i x++List.replicate (x.length+ys.length - i) (⟨⟨#[]⟩,0⟩:aQ))++ys++List.drop (i+ys.length) (List.take i x++List.replicate (x.length+ys.length - i) (⟨⟨#[]⟩,0⟩:aQ)))).length ab by rw [←ac]) ?_
 refine Y.eq .g10 (show(.slice (some aa) (List.take i (List.take i x++List.replicate (x.length+ys.length - i) (⟨⟨#[]⟩,0⟩:aQ))++ys++List.drop (i+ys.length) (List.take i x++List.replicate (x.length+ys.length - i) (⟨⟨#[]⟩,0⟩:aQ))).length ab:Value)= .slice (some aa) (List.take (i+ys.length) (List.take i (List.take i x++List.replicate (x.length+ys.length - i) (⟨⟨#[]⟩,0⟩:aQ))++ys++List.drop (i+ys.length) (List.take i x++List.replicate (x.length+ys.length - i) (⟨⟨#[]⟩,0⟩:aQ)))++(fY x i x.length)++List.drop (i+ys.length+(fY x i x.length).length) (List.take i (List.take i x++List.replicate (x.length+ys.length - i) (⟨⟨#[]⟩,0⟩:aQ))++ys++List.drop (i+ys.length) (List.take i x++List.replicate (x.length+ys.length - i) (⟨⟨#[]⟩,0⟩:aQ)))).length ab by rw [←ac]) ?_
 refine Y.eq .g11 (show(.slice (some aa) (List.take i (List.take i x++List.replicate (x.length+ys.length - i) (⟨⟨#[]⟩,0⟩:aQ))++ys++List.drop (i+ys.length) (List.take i x++List.replicate (x.length+ys.length - i) (⟨⟨#[]⟩,0⟩:aQ))).length ab:Value)= .slice (some aa) (List.take (i+ys.length) (List.take i (List.take i x++List.replicate (x.length+ys.length - i) (⟨⟨#[]⟩,0⟩:aQ))++ys++List.drop (i+ys.length) (List.take i x++List.replicate (x.length+ys.length - i) (⟨⟨#[]⟩,0⟩:aQ)))++(fY x i x.length)++List.drop (i+ys.length+(fY x i x.length).length) (List.take i (List.take i x++List.replicate (x.length+ys.length - i) (⟨⟨#[]⟩,0⟩:aQ))++ys++List.drop (i+ys.length) (List.take i x++List.replicate (x.length+ys.length - i) (⟨⟨#[]⟩,0⟩:aQ)))).length ab by rw [←ac]) ?_
 refine Y.sk .g3 ?_
 refine Y.aa ?_
 refine Y.ag (by kernel_rfl) ?_
 refine Y.g (Y.seq (Y.region (Y.mv rfl .g1 (Y.er (.s16 (.s16 .g13)) (Y.as rfl .z (Y.nt (Y.ret ?_)))))))
 refine Y.r ?_
 refine Y.af (x':=List.take i x++ys++List.drop i x) .z (aHa (by omega) rfl) ?_
 refine Y.i (aY rfl .z) (.c .z .n) ?_
 rfl
 refine Y.skip (Y.g (Y.seq (Y.region (Y.mv rfl (.s16 .g5) (Y.mv rfl .g10 (Y.mv rfl .g16 ?_))))))
 refine Y.ql rfl (bQ (c:=((x.length+ys.length:Nat):Int)) rfl (.t .g1) (.t .z) (wr (by omega) (by omega) (by omega))) ?_
 refine Y.ql rfl (vM (b:=x.length+ys.length) rfl cZ dV (.t .g3) (.t .z) (by omega)) ?_
 refine Y.er (.s16 .g10) (Y.as rfl .z (Y.nt (Y.seq (Y.seq (Y.region (Y.mv rfl (.s16 .g12) (Y.mv rfl .g1 ?_)))))))
 refine Y.mv rfl (.s16 .g13) (Y.mv rfl (.s16 .g7) ?_)
 refine Y.ql rfl (bQ (c:=((i+ys.length:Nat):Int)) rfl (.t .g1) (.t .z) (wr (by omega) (by omega) (by omega))) ?_
 refine Y.ql rfl (oM (a:=i+ys.length) (b:=x.length+ys.length) rfl cZ dV (.t .g3) (.inr ⟨_,_,rfl,(.t .z)⟩) (.inl ⟨rfl,rfl⟩) (by omega) (by omega)) ?_
 refine Y.el rfl (aC6 (tS:=42) (tR:=4) (i:=i+ys.length) rfl Tryz.func167 rfl rfl (by kernel_rfl) (by kernel_rfl) cZ dV (.t .g5) (.t .z) rfl (.c .z (.c .z .n)) (by omega) (by omega)) ?_
 rintro _ _ ⟨rfl,rfl⟩
 refine Y.ql rfl (fN rfl (.t .z)) (Y.nt ?_)
 refine Y.ao (.t .z) ?_
 refine Y.seq ?_
 refine Y.dr .g2 9 gG ?_
 refine Y.sc (qs 0 8++ [(8,false)]) (by kernel_rfl) ?_
 refine Y.dm rfl rfl .g2 .g8 (Y.dm rfl rfl .g2 (.s16 (.s16 .g4)) (Y.dm rfl rfl .g2 (.s16 .g14) ?_))
 refine Y.dk rfl rfl .g2 (bQ (c:=((i+ys.length:Nat):Int)) rfl (.t .g1) (.t .z) (wr (by omega) (by omega) (by omega))) ?_
 refine Y.dk rfl rfl .g2 (oM (a:=i+ys.length) (b:=x.length+ys.length) rfl cZ dV (.t .g3) (.inr ⟨_,_,rfl,(.t .z)⟩) (.inl ⟨rfl,rfl⟩) (by omega) (by omega)) ?_
 refine Y.dm rfl rfl .g2 .g13 (Y.dm rfl rfl .g2 (.s16 (.s16 .g9)) ?_)
 refine Y.dk rfl rfl .g2 (oM (a:=i) (b:=x.length+ys.length) rfl cZ dV (.t .g1) (.inr ⟨_,_,rfl,(.t .z)⟩) (.inl ⟨rfl,rfl⟩) (by omega) (by omega)) ?_
 refine Y.e (aE rfl rfl) rfl (by decide) rfl (aFv (i:=i) (m:=ys.length) (fS _ (eX (bC _ _ _) (bC _ _ _))) rfl cZ dV (aLp (.t .g3) (by omega)) rfl (.t .z) rfl (.c .z .n) (by omega) (by omega) (by omega)) ?_
 rintro _ _ ⟨g22,rfl,rfl,rfl⟩
 refine Y.sk .g2 ?_
 refine Y.aa ?_
 refine Y.ag (by kernel_rfl) ?_
 refine Y.g (Y.seq (Y.region (Y.mv rfl (.s16 .g1) (Y.mv rfl (.s16 (.s16 .g13)) ?_))))
 refine Y.ql rfl (oM (a:=i) (b:=x.length+ys.length) rfl cZ dV (.t .g1) (.inr ⟨_,_,rfl,(.t .z)⟩) (.inl ⟨rfl,rfl⟩) (by omega) (by omega)) ?_
 refine Y.mv rfl (.s16 (.s16 .g16)) ?_
 refine Y.el rfl (aCy (by_:=24) (fS _ (eX (bC _ _ _) (bC _ _ _))) rfl cZ dV (.t .g1) rfl (.t .z) (.c .z .n) (fun w1 S1 tr=>(tr.own .z)) (by omega) rfl (by omega) (by omega) (by omega) (by omega)) ?_
 rintro _ _ ⟨rfl,rfl⟩
 refine Y.nt (Y.seq (Y.region (Y.mv rfl (.s16 .g6) (Y.er (.s16 (.s16 (.s16 .g1))) (Y.as rfl .z (Y.nt ?_))))))
 refine Y.ret (Y.r ?_)
 refine Y.i (aY rfl .z) (.c .z .n) ?_
 rfl

end Go.Proofs.YtmejbfmhaoilmaaGreat

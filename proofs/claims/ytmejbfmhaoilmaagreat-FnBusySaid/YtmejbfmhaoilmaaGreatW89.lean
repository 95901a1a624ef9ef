/- What is proved: contracts of functions, one a function. No condition. -/
import Derived.Test.YtmejbfmhaoilmaaGreatBase1
import Derived.Test.YtmejbfmhaoilmaaGreatW88
import Derived.Test.YtmejbfmhaoilmaaGreatW54
namespace Go.Proofs.YtmejbfmhaoilmaaGreat
open Go Go.RowKit
set_option linter.unusedVariables false
set_option linter.unusedSimpArgs false
set_option maxHeartbeats 1000000
set_option maxRecDepth 20000
theorem aMw {w0:World}{S0:Bs}{cd:(List UInt8)}{v0:Value} (h0:bX.ro w0 (FF w0 S0) cd [v0]) (hcl:cd.length≤1048576):
    Calls Tryz.prog 61 #[v0] w0 (aI w0 S0 (fun r l=>∃(f:DFs) (v0_ v1_:Value) (m0:Int) (m1:(List UInt8)) (B1:Option Addr) (d1:Nat) (m2:(List Int)) (B2:Option Addr) (d2:Nat),(f.inodes.length≤11∧f.data.length≤20∧ -1≤m0∧m0≤12∧m1.length≤33∧m2.length≤30)∧r= .tuple #[.agg #[v0_,v1_],.int .i64 m0,.slice B1 m1.length d1,.slice B2 m2.length d2]∧l= [aG (lV aW) f.inodes [v0_],aG (lV cV) f.data [v1_],aG bX m1 [.slice B1 m1.length d1],aG aY m2 [.slice B2 m2.length d2]])):=by
 obtain⟨A0,c0,rfl,bm,bn,bo,bp⟩:=aD h0
 refine Y.enter (N:=32) Tryz.func61 rfl rfl (by simp) [(0,.slice A0 cd.length c0)] (by simp) (l0:= []) trivial ?_
 refine Y.seq (Y.region ?_)
 refine Y.el rfl (bD rfl mQ rfl rfl) ?_
 rintro _ _ ⟨g2,rfl,rfl⟩
 refine Y.ql rfl (aA rfl .c) (Y.ql rfl (aA rfl .c) (Y.ql rfl (aA rfl .c) (Y.nt (Y.seq (Y.region (Y.mv rfl .g4 ?_))))))
 refine Y.cl rfl rfl Tryz.func39 rfl rfl (bH (.t .z)) .n (fun _ _ hs tr=>aNe (tr.ctx h0) (by omega)) ?_
 rintro _ _ ⟨aa,v4,v6,m8,am,rfl,rfl⟩
 refine Y.r (.c (.c .n)) ?_
 refine Y.i (WS.u .z) ?_
 rintro⟨ad,ae,rfl,a7,a8,a9⟩
 refine Y.i (WS.u .g1) ?_
 rintro⟨ab,ac,rfl,an,ao,ap⟩
 refine Y.mv rfl .z (Y.ql rfl (bL (v:= .agg #[.slice ad aa.inodes.length ae,.slice ab aa.data.length ac]) rfl (.t .z) rfl) (Y.ql rfl (bL (v:= .int .i64 m8) rfl (.t .g1) rfl) ?_))
 refine Y.el rfl (bD rfl mQ rfl rfl) ?_
 rintro _ _ ⟨g11,rfl,rfl⟩
 refine Y.es (aE rfl) rfl (esW rfl (.t .z) (.t .g2) .z aX rfl rfl) ?_
 refine Y.as rfl .g1 (Y.nt (Y.seq (Y.region ?_)))
 refine Y.el rfl (aO (cs:= [.int .u8 3]) rfl fO (inz iM) (by decide) (pv1 .c) rfl rfl (by decide) rfl rfl) ?_
 rintro _ _ ⟨g12,rfl,rfl⟩
 refine Y.mv rfl .g12 ?_
 refine Y.ac (c:=aG bX ([(3:UInt8)]:(List UInt8)) [.slice (some ⟨g12,0,none⟩) 1 1]) (.c .z .n) (fun w S h=>fU (xs:=([(3:UInt8)]:(List UInt8))) h rfl (by simp) (by omega) (by omega)) ?_
 refine Y.el rfl (dU (bI _ _ _) rfl fO iM rfl (.t .g1) (.t .z) (.c .z .n) (fun w1 S1 tr=>tr.ctx h0) (by first | omega |(simp <;> omega)) (by first | omega |(simp <;> omega))) ?_
 rintro _ _ rfl
 refine Y.i (WS.a .z) ?_
 rintro⟨ba,bb,rfl,aq,ar,au⟩
 refine Y.cl rfl rfl Tryz.func40 rfl rfl (bH (.t .z)) .n (fun _ _ hs tr=>aJc (tr.own .z)) ?_
 rintro _ _ ⟨g15,rfl,rfl⟩
 refine Y.r (.c .n) ?_
 refine Y.as rfl .z (Y.nt (Y.seq (Y.region (Y.mv rfl .z ?_))))
 refine Y.cl rfl rfl Tryz.func106 rfl rfl (bH (.t .z)) (.c .z .n) (fun _ _ hs tr=>aIm (tr.own .z) hs (by omega)) ?_
 rintro _ _ ⟨ag,u16,ah,rfl⟩
 refine Y.r (.c (.c .n)) ?_
 refine Y.i (WS.a .z) ?_
 rintro⟨bc,bd,rfl,av,aw,ax⟩
 refine Y.as rfl .z (Y.nt (Y.seq (Y.seq (Y.region (Y.mv rfl .g3 ?_)))))
 refine Y.cl rfl rfl Tryz.func87 rfl rfl (aR (.t .z) .c) (.c .g1 .n) (fun _ _ hs tr=>aGm (tr.own .g1) _ hs (by omega) (by omega)) ?_
 rintro _ _ ⟨bq,rfl,rfl⟩
 refine Y.r (.c .n) ?_
 refine Y.nt ?_
 refine Y.cond (.t .z) (fun be=> ?_) (fun be=> ?_)
 refine Y.region (Y.mv rfl .g5 ?_)
 refine Y.cl rfl rfl Tryz.func42 rfl rfl (aR (.t .z) .c) (.c .z .n) (fun _ _ hs tr=>lA (tr.own .g1) _ hs (by omega) (by omega)) ?_
 rintro _ _ ⟨af,h0m22,h1m22,rfl,rfl⟩
 refine Y.r (.c .n) ?_
 refine Y.ql rfl (bG (c:=32+af) rfl .c (.t .z) (wr (by omega) (by omega) (by omega))) ?_
 refine Y.eq .z (congrArg (Value.int .i64) (show 32+af=((Int.toNat (32+af):Nat):Int) by omega)) ?_
 refine Y.el rfl (jH (n:=Int.toNat (32+af)) (x0:=(0:UInt8)) rfl fO iM rfl (fun _ _=>⟨rfl,trivial⟩) (.t .z) (.t .z) (by omega) (by omega)) ?_
 rintro _ _ rfl
 refine Y.i (WS.a .z) ?_
 rintro⟨bf,bg,rfl,ay,az,a0⟩
 refine Y.er .g6 (Y.as rfl .z (Y.nt (Y.seq ?_)))
 refine Y.sel (.c .z (.c .z (.c .z (.c .z (.c .g1 (.c .g1 (.c .g1 (.c .z .n)))))))) ?_
 refine Y.dr .g7 8 gB ?_
 refine Y.sc (qs 0 4++ [(4,false),(5,false),(6,true),(7,true),(8,false)]) (by kernel_rfl) ?_
 refine Y.dk rfl rfl .g7 (qW rfl bN (.t .g15) .z aX) (Y.dm rfl rfl .g7 .g15 (Y.dm rfl rfl .g7 .g2 (Y.dm rfl rfl .g7 .g12 ?_)))
 refine Y.call (aC rfl rfl) rfl (by decide) rfl (bF rfl Tryz.func107 rfl rfl (bH (.t .z))) (.c .g1 .n) (fun _ _ hs tr=>aIq (tr.own .g2) hs (by omega)) ?_
 rintro _ _ ⟨ai,u26,aj,rfl⟩
 refine Y.r (.c (.c .n)) ?_
 refine Y.i (WS.a .z) ?_
 rintro⟨bh,bi,rfl,a1,a2,a3⟩
 refine Y.sk .g8 ?_
 refine Y.es (aC rfl rfl) rfl (esW rfl (.t (.s16 .g13)) (.t .g4) .g7 aX rfl rfl) ?_
 refine Y.sk .g8 ?_
 refine Y.er (.s16 .g12) (Y.dk rfl rfl .g8 (aA rfl (.t .g3)) (Y.er (.s16 .g12) (Y.dk rfl rfl .g8 (aA rfl (.t .g3)) (Y.er (.s16 .g12) ?_))))
 refine Y.q (aC rfl rfl) rfl (by decide) rfl (aA rfl (.t .g2)) ?_
 refine Y.sl rfl ?_
 refine Y.aa ?_
 refine Y.ai (by kernel_rfl) ?_
 refine Y.g (Y.ret ?_)
 refine Y.j (wC (cs:= [.slice ad aa.inodes.length ae,.slice ab aa.data.length ac]) rfl (.s16 .g13) bN aX (WS.v (cs:= [.slice ad aa.inodes.length ae,.slice ab aa.data.length ac]) .z (fun _ _ h=>h)) .g2 .g1 .z) (.c .g6 (.c .g6 (.c .g3 (.c .g1 .n)))) ?_
 exact⟨aa,_,_,m8,List.replicate (Int.toNat (32+af)) (0:UInt8),_,_,ai,_,_,⟨by first | assumption | omega | decide |(simp <;> omega),by first | assumption | omega | decide |(simp <;> omega),by first | assumption | omega | decide |(simp <;> omega),by first | assumption | omega | decide |(simp <;> omega),by first | assumption | omega | decide |(simp <;> omega)⟩,rfl,rfl⟩
 refine Y.skip (Y.g (Y.seq ?_))
 refine Y.sel (.c .z (.c .z (.c .z (.c .g1 (.c .g1 (.c .g1 (.c .z .n))))))) ?_
 refine Y.dr .g6 8 gB ?_
 refine Y.sc (qs 0 4++ [(4,false),(5,false),(6,true),(7,true),(8,false)]) (by kernel_rfl) ?_
 refine Y.dk rfl rfl .g6 (qW rfl bN (.t .g11) .z aX) (Y.dm rfl rfl .g6 .g11 (Y.dm rfl rfl .g6 .g4 (Y.dm rfl rfl .g6 .g8 ?_)))
 refine Y.call (aC rfl rfl) rfl (by decide) rfl (bF rfl Tryz.func107 rfl rfl (bH (.t .z))) (.c .z .n) (fun _ _ hs tr=>aIq (tr.own .g1) hs (by omega)) ?_
 rintro _ _ ⟨ak,u30,al,rfl⟩
 refine Y.r (.c (.c .n)) ?_
 refine Y.i (WS.a .z) ?_
 rintro⟨bj,bk,rfl,a4,a5,a6⟩
 refine Y.sk .g7 ?_
 refine Y.es (aC rfl rfl) rfl (esW rfl (.t (.s16 .g9)) (.t .g4) .g6 aX rfl rfl) ?_
 refine Y.sk .g7 ?_
 refine Y.er (.s16 .g8) (Y.dk rfl rfl .g7 (aA rfl (.t .g3)) (Y.er (.s16 .g8) (Y.dk rfl rfl .g7 (aA rfl (.t .g3)) (Y.er (.s16 .g8) ?_))))
 refine Y.q (aC rfl rfl) rfl (by decide) rfl (aA rfl (.t .g2)) ?_
 refine Y.sl rfl ?_
 refine Y.aa ?_
 refine Y.ai (by kernel_rfl) ?_
 refine Y.g (Y.ret ?_)
 refine Y.j (wC (cs:= [.slice ad aa.inodes.length ae,.slice ab aa.data.length ac]) rfl (.s16 .g9) bN aX (WS.v (cs:= [.slice ad aa.inodes.length ae,.slice ab aa.data.length ac]) .z (fun _ _ h=>h)) .g2 .g1 .z) (.c .g5 (.c .g5 (.c .g3 (.c .g1 .n)))) ?_
 exact⟨aa,_,_,m8,ag,_,_,ak,_,_,⟨by first | assumption | omega | decide |(simp <;> omega),by first | assumption | omega | decide |(simp <;> omega),by first | assumption | omega | decide |(simp <;> omega),by first | assumption | omega | decide |(simp <;> omega),by first | assumption | omega | decide |(simp <;> omega)⟩,rfl,rfl⟩

theorem aNn {w0:World}{S0:Bs}{cd:(List UInt8)}{v0:Value} (h0:bX.ro w0 (FF w0 S0) cd [v0]) (hcl:cd.length≤1048576):
    Calls Tryz.prog 26 #[v0] w0 (aI w0 S0 (fun r l=>∃(f:DFs) (v0_ v1_:Value) (m0:Int) (m1:Int) (m2:(List Int)) (B2:Option Addr) (d2:Nat),(f.inodes.length≤11∧f.data.length≤20∧ -1≤m0∧m0≤12∧ -1≤m1∧m1≤33∧m2.length≤30)∧r= .tuple #[.agg #[v0_,v1_],.int .i64 m0,.int .i64 m1,.slice B2 m2.length d2]∧l= [aG (lV aW) f.inodes [v0_],aG (lV cV) f.data [v1_],aG aY m2 [.slice B2 m2.length d2]])):=by
 obtain⟨A0,c0,rfl,a3,a4,a5,a6⟩:=aD h0
 refine Y.enter (N:=32) Tryz.func26 rfl rfl (by simp) [(0,.slice A0 cd.length c0)] (by simp) (l0:= []) trivial ?_
 refine Y.seq (Y.region ?_)
 refine Y.el rfl (bD rfl mQ rfl rfl) ?_
 rintro _ _ ⟨g2,rfl,rfl⟩
 refine Y.ql rfl (aA rfl .c) (Y.ql rfl (aA rfl .c) (Y.ql rfl (aA rfl .c) (Y.nt (Y.seq (Y.region (Y.mv rfl .g4 ?_))))))
 refine Y.cl rfl rfl Tryz.func61 rfl rfl (bH (.t .z)) .n (fun _ _ hs tr=>aMw (tr.ctx h0) (by omega)) ?_
 rintro _ _ ⟨aa,v4,v6,m8,av,aw,ax,af,ay,az,aj,rfl,rfl⟩
 refine Y.r (.c (.c (.c (.c .n)))) ?_
 refine Y.i (WS.u .z) ?_
 rintro⟨ab,ac,rfl,ak,al,am⟩
 refine Y.i (WS.u .g1) ?_
 rintro⟨ad,ae,rfl,an,ao,ap⟩
 refine Y.mv rfl .z (Y.ql rfl (bL (v:= .agg #[.slice ab aa.inodes.length ac,.slice ad aa.data.length ae]) rfl (.t .z) rfl) (Y.ql rfl (bL (v:= .int .i64 m8) rfl (.t .g1) rfl) (Y.ql rfl (bL (v:= .slice aw av.length ax) rfl (.t .g2) rfl) (Y.ql rfl (bL (v:= .slice ay af.length az) rfl (.t .g3) rfl) ?_))))
 refine Y.el rfl (bD rfl mQ rfl rfl) ?_
 rintro _ _ ⟨g19,rfl,rfl⟩
 refine Y.es (aE rfl) rfl (esW rfl (.t .z) (.t .g4) .z aX rfl rfl) ?_
 refine Y.as rfl .g3 (Y.as rfl .g3 (Y.as rfl .g3 (Y.nt (Y.seq (Y.region ?_)))))
 refine Y.el rfl (aO (cs:= [.int .u8 5]) rfl fO (inz iM) (by decide) (pv1 .c) rfl rfl (by decide) rfl rfl) ?_
 rintro _ _ ⟨g20,rfl,rfl⟩
 refine Y.mv rfl .g16 ?_
 refine Y.ac (c:=aG bX ([(5:UInt8)]:(List UInt8)) [.slice (some ⟨g20,0,none⟩) 1 1]) (.c .z .n) (fun w S h=>fU (xs:=([(5:UInt8)]:(List UInt8))) h rfl (by simp) (by omega) (by omega)) ?_
 refine Y.el rfl (dU (bI _ _ _) rfl fO iM rfl (.t .g1) (.t .z) (.c .z .n) (fun w1 S1 tr=>tr.ctx h0) (by first | omega |(simp <;> omega)) (by first | omega |(simp <;> omega))) ?_
 rintro _ _ rfl
 refine Y.i (WS.a .z) ?_
 rintro⟨a0,a1,rfl,aq,ar,au⟩
 refine Y.cl rfl rfl Tryz.func40 rfl rfl (bH (.t .z)) .n (fun _ _ hs tr=>aJc (tr.own .z)) ?_
 rintro _ _ ⟨g23,rfl,rfl⟩
 refine Y.r (.c .n) ?_
 refine Y.as rfl .z (Y.nt (Y.seq ?_))
 refine Y.sel (.c .z (.c .z (.c .g1 (.c .g1 (.c .g1 (.c .g1 (.c .g1 (.c .z .n)))))))) ?_
 refine Y.dr .g7 13 gB ?_
 refine Y.sc (qs 0 4++ [(5,true),(9,true),(4,false),(6,false),(7,false),(8,false),(10,false),(11,true),(12,true),(13,false)]) (by kernel_rfl) ?_
 refine Y.dk rfl rfl .g7 (qW rfl bN (.t .g8) .z aX) (Y.dm rfl rfl .g7 .g8 (Y.dm rfl rfl .g7 .g2 (Y.dm rfl rfl .g7 .g3 (Y.dm rfl rfl .g7 .g4 (Y.dm rfl rfl .g7 .g10 ?_)))))
 refine Y.call (aC rfl rfl) rfl (by decide) rfl (bF rfl Tryz.func42 rfl rfl (aR (.t .g2) .c)) (.c .z .n) (fun _ _ hs tr=>lA (tr.own .z) _ hs (by omega) (by omega)) ?_
 rintro _ _ ⟨ag,h0m24,h1m24,rfl,rfl⟩
 refine Y.r (.c .n) ?_
 refine Y.sk .g7 ?_
 refine Y.call (aC rfl rfl) rfl (by decide) rfl (bF rfl Tryz.func42 rfl rfl (aR (.t .g2) .c)) (.c .z .n) (fun _ _ hs tr=>lA (tr.own .z) _ hs (by omega) (by omega)) ?_
 rintro _ _ ⟨ah,h0m25,h1m25,rfl,rfl⟩
 refine Y.r (.c .n) ?_
 refine Y.sk .g7 ?_
 refine Y.e (aC rfl rfl) rfl (by decide) rfl (aO (cs:= [.int .i64 ag,.int .i64 ah,.int .i64 33,.int .i64 (-1)]) rfl dN (inz fI) (by decide) (pv4 (.t .g1) (.t .z) .c .c) rfl rfl (by decide) rfl rfl) ?_
 rintro _ _ ⟨g26,rfl,rfl⟩
 refine Y.sk .g8 ?_
 refine Y.ac (c:=aG aY ([ag,ah,33,(-1)]:(List Int)) [.slice (some ⟨g26,0,none⟩) 4 4]) (.c .z .n) (fun w S h=>fU (xs:=([ag,ah,33,(-1)]:(List Int))) h rfl (by simp) (by omega) (by omega)) ?_
 refine Y.call (aC rfl rfl) rfl (by decide) rfl (bF rfl Tryz.func41 rfl rfl (aR (.t .g6) (.t .z))) (.c .g1 .n) (fun _ _ hs tr=>sC (tr.own .g1) (tr.own .z) hs (by omega) (by simp)) ?_
 rintro _ _ ⟨a2,ai,rfl,rfl⟩
 refine Y.r (.c .n) ?_
 simp only [List.mem_cons,List.not_mem_nil,or_false] at ai
 refine Y.sk .g8 ?_
 refine Y.es (aC rfl rfl) rfl (esW rfl (.t (.s16 .g13)) (.t .g9) .g7 aX rfl rfl) ?_
 refine Y.sk .g8 ?_
 refine Y.er (.s16 .g12) (Y.dk rfl rfl .g8 (aA rfl (.t .g8)) (Y.er (.s16 .g12) (Y.dk rfl rfl .g8 (aA rfl (.t .g1)) (Y.er (.s16 .g12) ?_))))
 refine Y.q (aC rfl rfl) rfl (by decide) rfl (aA rfl (.t .g6)) ?_
 refine Y.sl rfl ?_
 refine Y.aa ?_
 refine Y.ai (by kernel_rfl) ?_
 refine Y.g (Y.ret ?_)
 refine Y.j (wC (cs:= [.slice ab aa.inodes.length ac,.slice ad aa.data.length ae]) rfl (.s16 .g13) bN aX (WS.v (cs:= [.slice ab aa.inodes.length ac,.slice ad aa.data.length ae]) .z (fun _ _ h=>h)) .g2 .g1 .z) (.c .g4 (.c .g4 (.c .g5 .n))) ?_
 exact⟨aa,_,_,m8,a2,af,_,_,⟨by first | assumption | omega | decide |(simp <;> omega),by first | assumption | omega | decide |(simp <;> omega),by first | assumption | omega | decide |(simp <;> omega),by first | assumption | omega | decide |(simp <;> omega),by first | assumption | omega | decide |(simp <;> omega)⟩,rfl,rfl⟩

end Go.Proofs.YtmejbfmhaoilmaaGreat

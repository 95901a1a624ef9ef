/- What is proved: the kinds of this program's types, laid open and put together; facts on its types. No condition. -/
import Derived.Test.YtmejbfmhaoilmaaGreatProg
import Derived.Test.YtmejbfmhaoilmaaGreatBase0
namespace Go.Proofs.YtmejbfmhaoilmaaGreat
open Go Go.RowKit
set_option maxRecDepth 100000
set_option linter.unusedVariables false
set_option linter.unusedSimpArgs false
theorem u_2:Tryz.prog.underlying 2=some (.int .i64):=by kernel_rfl
theorem jQ:(Tryz.prog.info? 2).map (·.size)=some 1:=by kernel_rfl
theorem cF:eP Tryz.prog 2 false:=by unfold eP;kernel_rfl
theorem u_3:Tryz.prog.underlying 3=some (.int .i64):=by kernel_rfl
theorem u_4:Tryz.prog.underlying 4=some .bool:=by kernel_rfl
theorem aF0:(Tryz.prog.info? 4).map (·.size)=some 1:=by kernel_rfl
theorem aLu:eP Tryz.prog 4 false:=by unfold eP;kernel_rfl
theorem u_5:Tryz.prog.underlying 5=some (.int .u8):=by kernel_rfl
theorem aAf:(Tryz.prog.info? 5).map (·.size)=some 1:=by kernel_rfl
theorem aKk:eP Tryz.prog 5 false:=by unfold eP;kernel_rfl
theorem u_9:Tryz.prog.underlying 9=some .string:=by kernel_rfl
theorem tF:(Tryz.prog.info? 9).map (·.size)=some 1:=by kernel_rfl
theorem iR:eP Tryz.prog 9 false:=by unfold eP;kernel_rfl
abbrev cX:Kd (List UInt8):=bA 5 1 sZ
theorem gV:Tryz.prog.underlying 22=some (.slice 5):=by kernel_rfl
theorem nL:eP Tryz.prog 22 false:=by unfold eP;kernel_rfl
theorem mC:(Tryz.prog.info? 22).map (·.size)=some 1:=by kernel_rfl
theorem kB:(Tryz.prog.info? 5).map (fun i=>(i.size,i.bytes,i.zero))=some (sZ.sz,1,some (.int .u8 0)):=by kernel_rfl
abbrev bY:Kd (List Int):=bA 2 8 (iQ .i64)
theorem eQ:Tryz.prog.underlying 36=some (.slice 2):=by kernel_rfl
theorem fA:eP Tryz.prog 36 false:=by unfold eP;kernel_rfl
theorem aCd:(Tryz.prog.info? 36).map (·.size)=some 1:=by kernel_rfl
theorem iO:(Tryz.prog.info? 2).map (fun i=>(i.size,i.bytes,i.zero))=some ((iQ .i64).sz,8,some (.int .i64 0)):=by kernel_rfl
def gH:Kd aQ:=aFj (jM uM (iQ .i64)) (fun x=>(x.name,x.ino))
theorem dV:(Tryz.prog.info? 46).map (·.size)=some 2:=by kernel_rfl
theorem aFx:(Tryz.prog.info? 46).map (·.zero)=some (some (.agg #[.string ⟨#[]⟩,.int .i64 0])):=by kernel_rfl
theorem pU:eP Tryz.prog 46 true:=by unfold eP;kernel_rfl
theorem pI:kM Tryz.prog 46 (.agg #[.string ⟨#[]⟩,.int .i64 0]) #[(0,1),(1,1)]:=⟨by kernel_rfl,by kernel_rfl,fun w=>by kernel_rfl⟩
theorem jP (ad:Addr) (w:World):(Instr.fieldAt 46 (.pointer (some ad)) 0).run Tryz.prog w= .ok (.pointer (some (ad.add 0))) w:=by kernel_rfl
theorem iX (ad:Addr) (w:World):(Instr.fieldAt 46 (.pointer (some ad)) 1).run Tryz.prog w= .ok (.pointer (some (ad.add 1))) w:=by kernel_rfl
theorem aFb:Tryz.prog.eqGuardType Tryz.prog.depth 46=false:=by kernel_rfl
theorem aFe (x y:aQ) (w:World):(Op.equalIn 10000 46 (.agg #[.string x.name,.int .i64 x.ino]) (.agg #[.string y.name,.int .i64 y.ino])).run Tryz.prog w= .ok (decide (x=y)) w:=by
  rw [run_equalIn_struct w 9999 46 _ _ (by kernel_rfl) (by kernel_rfl)]
  rw [show(Tryz.prog.fieldsOf 46).toList= [(Tryz.prog.fieldsOf 46)[0]!,(Tryz.prog.fieldsOf 46)[1]!] by kernel_rfl]
  refine((sM (a:= .string x.name) (b:= .string y.name) (by kernel_rfl) (fun w=>by kernel_rfl) (fun w=>by kernel_rfl) (fun w=>run_equalIn_string w 9998 _ x.name y.name (by kernel_rfl)) (sM (a:= .int .i64 x.ino) (b:= .int .i64 y.ino) (by kernel_rfl) (fun w=>by kernel_rfl) (fun w=>by kernel_rfl) (fun w=>run_equalIn_int w 9998 _ .i64 .i64 x.ino y.ino (by kernel_rfl)) aBi)) w).trans ?_
  congr 1;cases x;cases y;simp only [aD2,aEt,Bool.and_true,aQ.mk.injEq,Bool.decide_and]
theorem eR {w:World}{F:Bs}{x:aQ}{cs:List Value} (h:gH.ro w F x cs):cs= [.string x.name,.int .i64 x.ino]∧x.name.size≤140737488351232:=by
  obtain⟨_,_,rfl,⟨rfl,s0⟩,⟨rfl, -⟩⟩:=h
  exact⟨rfl,s0⟩
theorem nU {w:World}{F:Bs} (x:aQ) (s0:x.name.size≤140737488351232):gH.ro w F x [.string x.name,.int .i64 x.ino]:=
  ⟨_,_,rfl,⟨rfl,s0⟩,⟨rfl,trivial⟩⟩
theorem aFq {w:World}{S:Bs}{x:aQ}{cs:List Value} (h:gH.own w S x cs):cs= [.string x.name,.int .i64 x.ino]∧cB [] w S∧x.name.size≤140737488351232:=by
  obtain⟨_,_,rfl,a0⟩:=h
  obtain⟨p0,q0,b0,c0,i0,j0,k0⟩:=aBk a0
  obtain⟨rfl,s0⟩:=b0
  obtain⟨rfl, -⟩:=c0
  exact⟨rfl,trivial,s0⟩
theorem uD {x:aQ}{cs:List Value} (w:World) (S:Bs) (h:cB [aG gH x cs] w S):∃g:Unit,(cs= [.string x.name,.int .i64 x.ino]∧x.name.size≤140737488351232)∧cB [] w S:=by
  obtain⟨h1,h2,s0⟩:=aFq (show gH.own w S x cs from h.head (c:=aG gH x cs))
  exact⟨(),⟨h1,s0⟩,h2⟩
theorem fH {w:World}{S:Bs} (x:aQ) (h:cB [] w S) (s0:x.name.size≤140737488351232):gH.own w S x [.string x.name,.int .i64 x.ino]:=by
  have m1:Mk uM x.name [.string x.name] []:=(aK2 s0)
  have m2:Mk (iQ .i64) x.ino [.int .i64 x.ino] []:=aAv
  have m3:Mk (jM uM (iQ .i64)) (x.name,x.ino) ([.string x.name]++ [.int .i64 x.ino]) ([]++ []):=tZ m1 m2
  have m0:Mk gH x ([.string x.name]++ [.int .i64 x.ino]) ([]++ []):=m3
  exact m0 w S h
theorem aIo (w:World) (S:Bs):gH.own w S (⟨⟨#[]⟩,0⟩:aQ) [.string ⟨#[]⟩,.int .i64 0]:=fH (⟨⟨#[]⟩,0⟩:aQ) (trivial) (by decide)
abbrev cP:Kd (List aQ):=bA 46 24 gH
theorem cZ:Tryz.prog.underlying 42=some (.slice 46):=by kernel_rfl
theorem dP:eP Tryz.prog 42 false:=by unfold eP;kernel_rfl
theorem nC:(Tryz.prog.info? 42).map (·.size)=some 1:=by kernel_rfl
theorem eF:(Tryz.prog.info? 46).map (fun i=>(i.size,i.bytes,i.zero))=some (gH.sz,24,some (.agg #[.string ⟨#[]⟩,.int .i64 0])):=by kernel_rfl
def bD:Kd aF:=aFj (jM (iQ .i64) (jM (iQ .i64) (jM (iQ .i64) (jM bY cP)))) (fun x=>(x.kind,x.links,x.size,x.blocks,x.ents))
theorem aU:(Tryz.prog.info? 44).map (·.size)=some 5:=by kernel_rfl
theorem tB:(Tryz.prog.info? 44).map (·.zero)=some (some (.agg #[.int .i64 0,.int .i64 0,.int .i64 0,.slice none 0 0,.slice none 0 0])):=by kernel_rfl
theorem fG:eP Tryz.prog 44 true:=by unfold eP;kernel_rfl
theorem rX:kM Tryz.prog 44 (.agg #[.int .i64 0,.int .i64 0,.int .i64 0,.slice none 0 0,.slice none 0 0]) #[(0,1),(1,1),(2,1),(3,1),(4,1)]:=⟨by kernel_rfl,by kernel_rfl,fun w=>by kernel_rfl⟩
theorem cV (ad:Addr) (w:World):(Instr.fieldAt 44 (.pointer (some ad)) 0).run Tryz.prog w= .ok (.pointer (some (ad.add 0))) w:=by kernel_rfl
theorem gC (ad:Addr) (w:World):(Instr.fieldAt 44 (.pointer (some ad)) 1).run Tryz.prog w= .ok (.pointer (some (ad.add 1))) w:=by kernel_rfl
theorem hX (ad:Addr) (w:World):(Instr.fieldAt 44 (.pointer (some ad)) 2).run Tryz.prog w= .ok (.pointer (some (ad.add 2))) w:=by kernel_rfl
theorem dI (ad:Addr) (w:World):(Instr.fieldAt 44 (.pointer (some ad)) 3).run Tryz.prog w= .ok (.pointer (some (ad.add 3))) w:=by kernel_rfl
theorem bE (ad:Addr) (w:World):(Instr.fieldAt 44 (.pointer (some ad)) 4).run Tryz.prog w= .ok (.pointer (some (ad.add 4))) w:=by kernel_rfl
theorem cK {w:World}{F:Bs}{x:aF}{cs:List Value} (h:bD.ro w F x cs):∃v3 v4,cs= [.int .i64 x.kind,.int .i64 x.links,.int .i64 x.size,v3,v4]∧bY.ro w F x.blocks [v3]∧cP.ro w F x.ents [v4]:=by
  obtain⟨_,_,rfl,⟨rfl, -⟩,⟨_,_,rfl,⟨rfl, -⟩,⟨_,_,rfl,⟨rfl, -⟩,⟨_,_,rfl,h3,h4⟩⟩⟩⟩:=h
  obtain⟨v3,rfl⟩:=mD h3
  obtain⟨v4,rfl⟩:=mD h4
  exact⟨v3,v4,rfl,h3,h4⟩
theorem hP {w:World}{F:Bs} (x:aF) {v3:Value}{v4:Value} (h3:bY.ro w F x.blocks [v3]) (h4:cP.ro w F x.ents [v4]):bD.ro w F x [.int .i64 x.kind,.int .i64 x.links,.int .i64 x.size,v3,v4]:=
  ⟨_,_,rfl,⟨rfl,trivial⟩,⟨_,_,rfl,⟨rfl,trivial⟩,⟨_,_,rfl,⟨rfl,trivial⟩,⟨_,_,rfl,h3,h4⟩⟩⟩⟩
theorem aFl {w:World}{S:Bs}{x:aF}{cs:List Value} (h:bD.own w S x cs):∃v3 v4,cs= [.int .i64 x.kind,.int .i64 x.links,.int .i64 x.size,v3,v4]∧cB [aG bY x.blocks [v3],aG cP x.ents [v4]] w S:=by
  obtain⟨_,_,rfl,a0⟩:=h
  obtain⟨p0,q0,b0,c0,i0,j0,k0⟩:=aBk a0
  obtain⟨rfl, -⟩:=b0
  obtain⟨_,_,rfl,a1⟩:=c0
  obtain⟨p1,q1,b1,c1,i1,j1,k1⟩:=aBk a1
  obtain⟨rfl, -⟩:=b1
  obtain⟨_,_,rfl,a2⟩:=c1
  obtain⟨p2,q2,b2,c2,i2,j2,k2⟩:=aBk a2
  obtain⟨rfl, -⟩:=b2
  obtain⟨_,_,rfl,a3⟩:=c2
  obtain⟨p3,q3,b3,c3,i3,j3,k3⟩:=aBk a3
  obtain⟨v3,rfl⟩:=aEu b3
  have g4:=cB.one (c:=aG bY x.blocks [v3]) b3
  obtain⟨v4,rfl⟩:=aEu c3
  have g5:=cB.one (c:=aG cP x.ents [v4]) c3
  have g6:=g4.app g5 i3 j3 k3
  have g7:=g6.up j2
  have g8:=g7.up j1
  have g9:=g8.up j0
  exact⟨v3,v4,rfl,g9⟩
theorem dR {x:aF}{cs:List Value} (w:World) (S:Bs) (h:cB [aG bD x cs] w S):∃g:Value×Value,cs= [.int .i64 x.kind,.int .i64 x.links,.int .i64 x.size,g.1,g.2]∧cB [aG bY x.blocks [g.1],aG cP x.ents [g.2]] w S:=by
  obtain⟨v3,v4,h1,h2⟩:=aFl (show bD.own w S x cs from h.head (c:=aG bD x cs))
  exact⟨(v3,v4),h1,h2⟩
theorem bF {w:World}{S:Bs} (x:aF) {v3:Value}{v4:Value} (h:cB [aG bY x.blocks [v3],aG cP x.ents [v4]] w S):bD.own w S x [.int .i64 x.kind,.int .i64 x.links,.int .i64 x.size,v3,v4]:=by
  have m1:Mk (iQ .i64) x.kind [.int .i64 x.kind] []:=aAv
  have m2:Mk (iQ .i64) x.links [.int .i64 x.links] []:=aAv
  have m3:Mk (iQ .i64) x.size [.int .i64 x.size] []:=aAv
  have m4:Mk bY x.blocks [v3] [aG bY x.blocks [v3]]:=aEn
  have m5:Mk cP x.ents [v4] [aG cP x.ents [v4]]:=aEn
  have m6:Mk (jM bY cP) (x.blocks,x.ents) ([v3]++ [v4]) ([aG bY x.blocks [v3]]++ [aG cP x.ents [v4]]):=tZ m4 m5
  have m7:Mk (jM (iQ .i64) (jM bY cP)) (x.size,(x.blocks,x.ents)) ([.int .i64 x.size]++([v3]++ [v4])) ([]++([aG bY x.blocks [v3]]++ [aG cP x.ents [v4]])):=tZ m3 m6
  have m8:Mk (jM (iQ .i64) (jM (iQ .i64) (jM bY cP))) (x.links,(x.size,(x.blocks,x.ents))) ([.int .i64 x.links]++([.int .i64 x.size]++([v3]++ [v4]))) ([]++([]++([aG bY x.blocks [v3]]++ [aG cP x.ents [v4]]))):=tZ m2 m7
  have m9:Mk (jM (iQ .i64) (jM (iQ .i64) (jM (iQ .i64) (jM bY cP)))) (x.kind,(x.links,(x.size,(x.blocks,x.ents)))) ([.int .i64 x.kind]++([.int .i64 x.links]++([.int .i64 x.size]++([v3]++ [v4])))) ([]++([]++([]++([aG bY x.blocks [v3]]++ [aG cP x.ents [v4]])))):=tZ m1 m8
  have m0:Mk bD x ([.int .i64 x.kind]++([.int .i64 x.links]++([.int .i64 x.size]++([v3]++ [v4])))) ([]++([]++([]++([aG bY x.blocks [v3]]++ [aG cP x.ents [v4]])))):=m9
  exact m0 w S h
def aLk (x:aF) (r:Value) (l:List Asn):Prop:=∃v3 v4,r= .agg #[.int .i64 x.kind,.int .i64 x.links,.int .i64 x.size,v3,v4]∧l= [aG bY x.blocks [v3],aG cP x.ents [v4]]
theorem aI7 (w:World) (S:Bs):bD.own w S (⟨0,0,0,[],[]⟩:aF) [.int .i64 0,.int .i64 0,.int .i64 0,.slice none 0 0,.slice none 0 0]:=bF (⟨0,0,0,[],[]⟩:aF) (⟨fun _=>False,fun _=>False,aN _ _ none,⟨fun _=>False,fun _=>False,aN _ _ none,trivial,fun _ h=>h.elim,fun _ h=>h.elim,fun _ h=>h.elim⟩,fun _ h=>h.elim,fun _ h=>h.elim,fun _ h=>h.elim⟩)
abbrev aP:Kd (List aF):=bA 44 72 bD
theorem cE:Tryz.prog.underlying 24=some (.slice 44):=by kernel_rfl
theorem bK:eP Tryz.prog 24 false:=by unfold eP;kernel_rfl
theorem aEy:(Tryz.prog.info? 24).map (·.size)=some 1:=by kernel_rfl
theorem lF:(Tryz.prog.info? 44).map (fun i=>(i.size,i.bytes,i.zero))=some (bD.sz,72,some (.agg #[.int .i64 0,.int .i64 0,.int .i64 0,.slice none 0 0,.slice none 0 0])):=by kernel_rfl
abbrev cG:Kd (List (List UInt8)):=bA 22 24 cX
theorem mA:Tryz.prog.underlying 25=some (.slice 22):=by kernel_rfl
theorem lM:eP Tryz.prog 25 false:=by unfold eP;kernel_rfl
theorem aJx:(Tryz.prog.info? 25).map (·.size)=some 1:=by kernel_rfl
theorem wU:(Tryz.prog.info? 22).map (fun i=>(i.size,i.bytes,i.zero))=some (cX.sz,24,some (.slice none 0 0)):=by kernel_rfl
def eU:Kd DFs:=aFj (jM aP cG) (fun x=>(x.inodes,x.data))
theorem aW:(Tryz.prog.info? 27).map (·.size)=some 2:=by kernel_rfl
theorem nF:(Tryz.prog.info? 27).map (·.zero)=some (some (.agg #[.slice none 0 0,.slice none 0 0])):=by kernel_rfl
theorem bI:eP Tryz.prog 27 true:=by unfold eP;kernel_rfl
theorem aH1:kM Tryz.prog 27 (.agg #[.slice none 0 0,.slice none 0 0]) #[(0,1),(1,1)]:=⟨by kernel_rfl,by kernel_rfl,fun w=>by kernel_rfl⟩
theorem aO (ad:Addr) (w:World):(Instr.fieldAt 27 (.pointer (some ad)) 0).run Tryz.prog w= .ok (.pointer (some (ad.add 0))) w:=by kernel_rfl
theorem gR (ad:Addr) (w:World):(Instr.fieldAt 27 (.pointer (some ad)) 1).run Tryz.prog w= .ok (.pointer (some (ad.add 1))) w:=by kernel_rfl
theorem cY {w:World}{F:Bs}{x:DFs}{cs:List Value} (h:eU.ro w F x cs):∃v0 v1,cs= [v0,v1]∧aP.ro w F x.inodes [v0]∧cG.ro w F x.data [v1]:=by
  obtain⟨_,_,rfl,h0,h1⟩:=h
  obtain⟨v0,rfl⟩:=mD h0
  obtain⟨v1,rfl⟩:=mD h1
  exact⟨v0,v1,rfl,h0,h1⟩
theorem aM {w:World}{F:Bs} (x:DFs) {v0:Value}{v1:Value} (h0:aP.ro w F x.inodes [v0]) (h1:cG.ro w F x.data [v1]):eU.ro w F x [v0,v1]:=
  ⟨_,_,rfl,h0,h1⟩
def aId (x:DFs) (r:Value) (l:List Asn):Prop:=∃v0 v1,r= .agg #[v0,v1]∧l= [aG aP x.inodes [v0],aG cG x.data [v1]]
def yE (g e s:Nat) (post:List Value) (x:DFs) (r:Value) (l:List Asn):Prop:=∃v0 v1,r= .tuple #[]∧l= [cM g e s 1 (v0 :: v1 :: post),aG aP x.inodes [v0],aG cG x.data [v1]]
theorem kH:(Tryz.prog.info? 31).map (·.size)=some 2:=by kernel_rfl
theorem aJe:(Tryz.prog.info? 31).map (·.zero)=some (some (.agg #[.int .i64 0,.slice none 0 0])):=by kernel_rfl
theorem rD:eP Tryz.prog 31 true:=by unfold eP;kernel_rfl
theorem uJ:kM Tryz.prog 31 (.agg #[.int .i64 0,.slice none 0 0]) #[(0,1),(1,1)]:=⟨by kernel_rfl,by kernel_rfl,fun w=>by kernel_rfl⟩
theorem aA9 (ad:Addr) (w:World):(Instr.fieldAt 31 (.pointer (some ad)) 0).run Tryz.prog w= .ok (.pointer (some (ad.add 0))) w:=by kernel_rfl
theorem wI (ad:Addr) (w:World):(Instr.fieldAt 31 (.pointer (some ad)) 1).run Tryz.prog w= .ok (.pointer (some (ad.add 1))) w:=by kernel_rfl
def aJq (x:aDc) (r:Value) (l:List Asn):Prop:=∃v1,r= .agg #[.int .i64 x.code,v1]∧l= [aG cX x.bytes [v1]]
theorem rQ:(Tryz.prog.info? 38).map (·.size)=some 2:=by kernel_rfl
theorem aIz:(Tryz.prog.info? 38).map (·.zero)=some (some (.agg #[.int .i64 0,.slice none 0 0])):=by kernel_rfl
theorem aEc:eP Tryz.prog 38 true:=by unfold eP;kernel_rfl
theorem aD0:kM Tryz.prog 38 (.agg #[.int .i64 0,.slice none 0 0]) #[(0,1),(1,1)]:=⟨by kernel_rfl,by kernel_rfl,fun w=>by kernel_rfl⟩
theorem aEe (ad:Addr) (w:World):(Instr.fieldAt 38 (.pointer (some ad)) 0).run Tryz.prog w= .ok (.pointer (some (ad.add 0))) w:=by kernel_rfl
theorem aI6 (ad:Addr) (w:World):(Instr.fieldAt 38 (.pointer (some ad)) 1).run Tryz.prog w= .ok (.pointer (some (ad.add 1))) w:=by kernel_rfl
def aMj (x:qQ) (r:Value) (l:List Asn):Prop:=∃v1,r= .agg #[.int .i64 x.code,v1]∧l= [aG bY x.list [v1]]
theorem fC:(Tryz.prog.info? 48).map (·.size)=some 3:=by kernel_rfl
theorem xC:(Tryz.prog.info? 48).map (·.zero)=some (some (.agg #[.int .i64 0,.slice none 0 0,.slice none 0 0])):=by kernel_rfl
theorem kE:eP Tryz.prog 48 true:=by unfold eP;kernel_rfl
theorem kW:kM Tryz.prog 48 (.agg #[.int .i64 0,.slice none 0 0,.slice none 0 0]) #[(0,1),(1,2)]:=⟨by kernel_rfl,by kernel_rfl,fun w=>by kernel_rfl⟩
theorem qO (ad:Addr) (w:World):(Instr.fieldAt 48 (.pointer (some ad)) 0).run Tryz.prog w= .ok (.pointer (some (ad.add 0))) w:=by kernel_rfl
theorem mK (ad:Addr) (w:World):(Instr.fieldAt 48 (.pointer (some ad)) 1).run Tryz.prog w= .ok (.pointer (some (ad.add 1))) w:=by kernel_rfl
def vY (x:RFs) (r:Value) (l:List Asn):Prop:=∃v1 v2,r= .agg #[.int .i64 x.code,v1,v2]∧l= [aG aP x.fs.inodes [v1],aG cG x.fs.data [v2]]
abbrev fB:Kd (List ByteArray):=bA 9 16 uM
theorem hZ:Tryz.prog.underlying 63=some (.slice 9):=by kernel_rfl
theorem xV:eP Tryz.prog 63 false:=by unfold eP;kernel_rfl
theorem aNa:(Tryz.prog.info? 63).map (·.size)=some 1:=by kernel_rfl
theorem lQ:(Tryz.prog.info? 9).map (fun i=>(i.size,i.bytes,i.zero))=some (uM.sz,16,some (.string ⟨#[]⟩)):=by kernel_rfl
theorem qU:(Tryz.prog.info? 65).map (·.size)=some 2:=by kernel_rfl
theorem aHo:(Tryz.prog.info? 65).map (·.zero)=some (some (.agg #[.int .i64 0,.slice none 0 0])):=by kernel_rfl
theorem aBz:eP Tryz.prog 65 true:=by unfold eP;kernel_rfl
theorem aEw:kM Tryz.prog 65 (.agg #[.int .i64 0,.slice none 0 0]) #[(0,1),(1,1)]:=⟨by kernel_rfl,by kernel_rfl,fun w=>by kernel_rfl⟩
theorem aEx (ad:Addr) (w:World):(Instr.fieldAt 65 (.pointer (some ad)) 0).run Tryz.prog w= .ok (.pointer (some (ad.add 0))) w:=by kernel_rfl
theorem oN (ad:Addr) (w:World):(Instr.fieldAt 65 (.pointer (some ad)) 1).run Tryz.prog w= .ok (.pointer (some (ad.add 1))) w:=by kernel_rfl
def aJw (x:aHd) (r:Value) (l:List Asn):Prop:=∃v1,r= .agg #[.int .i64 x.code,v1]∧l= [aG fB x.names [v1]]
theorem pZ:(Tryz.prog.info? 68).map (·.size)=some 2:=by kernel_rfl
theorem aKv:(Tryz.prog.info? 68).map (·.zero)=some (some (.agg #[.int .i64 0,.int .i64 0])):=by kernel_rfl
theorem zD:eP Tryz.prog 68 true:=by unfold eP;kernel_rfl
theorem zG:kM Tryz.prog 68 (.agg #[.int .i64 0,.int .i64 0]) #[(0,1),(1,1)]:=⟨by kernel_rfl,by kernel_rfl,fun w=>by kernel_rfl⟩
theorem aJm (ad:Addr) (w:World):(Instr.fieldAt 68 (.pointer (some ad)) 0).run Tryz.prog w= .ok (.pointer (some (ad.add 0))) w:=by kernel_rfl
theorem aJk (ad:Addr) (w:World):(Instr.fieldAt 68 (.pointer (some ad)) 1).run Tryz.prog w= .ok (.pointer (some (ad.add 1))) w:=by kernel_rfl
theorem vG:Tryz.prog.eqGuardType Tryz.prog.depth 68=false:=by kernel_rfl
theorem vL (x y:aGz) (w:World):(Op.equalIn 10000 68 (.agg #[.int .i64 x.code,.int .i64 x.val]) (.agg #[.int .i64 y.code,.int .i64 y.val])).run Tryz.prog w= .ok (decide (x=y)) w:=by
  rw [run_equalIn_struct w 9999 68 _ _ (by kernel_rfl) (by kernel_rfl)]
  rw [show(Tryz.prog.fieldsOf 68).toList= [(Tryz.prog.fieldsOf 68)[0]!,(Tryz.prog.fieldsOf 68)[1]!] by kernel_rfl]
  refine((sM (a:= .int .i64 x.code) (b:= .int .i64 y.code) (by kernel_rfl) (fun w=>by kernel_rfl) (fun w=>by kernel_rfl) (fun w=>run_equalIn_int w 9998 _ .i64 .i64 x.code y.code (by kernel_rfl)) (sM (a:= .int .i64 x.val) (b:= .int .i64 y.val) (by kernel_rfl) (fun w=>by kernel_rfl) (fun w=>by kernel_rfl) (fun w=>run_equalIn_int w 9998 _ .i64 .i64 x.val y.val (by kernel_rfl)) aBi)) w).trans ?_
  congr 1;cases x;cases y;simp only [aD2,aEt,Bool.and_true,aGz.mk.injEq,Bool.decide_and]
def aJt (x:aGz) (r:Value) (l:List Asn):Prop:=r= .agg #[.int .i64 x.code,.int .i64 x.val]∧l= []
theorem aKs:kM Tryz.prog 119 (.agg #[.slice none 0 0,.int .i64 0]) #[(0,1),(1,1)]:=⟨by kernel_rfl,by kernel_rfl,fun w=>by kernel_rfl⟩
theorem xG (ad:Addr) (w:World):(Instr.fieldAt 119 (.pointer (some ad)) 0).run Tryz.prog w= .ok (.pointer (some (ad.add 0))) w:=by kernel_rfl
theorem yF (ad:Addr) (w:World):(Instr.fieldAt 119 (.pointer (some ad)) 1).run Tryz.prog w= .ok (.pointer (some (ad.add 1))) w:=by kernel_rfl
abbrev zT:Kd (List Bool):=bA 4 1 aCv
theorem zW:Tryz.prog.underlying 129=some (.slice 4):=by kernel_rfl
theorem aMd:(Tryz.prog.info? 4).map (fun i=>(i.size,i.bytes,i.zero))=some (aCv.sz,1,some (.bool false)):=by kernel_rfl
theorem bG:(Tryz.prog.info? 155).map (·.size)=some 7:=by kernel_rfl
theorem tP:(Tryz.prog.info? 155).map (·.zero)=some (some (.agg #[.int .i64 0,.int .i64 0,.int .i64 0,.slice none 0 0,.slice none 0 0,.slice none 0 0,.slice none 0 0])):=by kernel_rfl
theorem dS:eP Tryz.prog 155 true:=by unfold eP;kernel_rfl
theorem mO:kM Tryz.prog 155 (.agg #[.int .i64 0,.int .i64 0,.int .i64 0,.slice none 0 0,.slice none 0 0,.slice none 0 0,.slice none 0 0]) #[(0,1),(1,1),(2,1),(3,1),(4,1),(5,2)]:=⟨by kernel_rfl,by kernel_rfl,fun w=>by kernel_rfl⟩
theorem aG6 (ad:Addr) (w:World):(Instr.fieldAt 155 (.pointer (some ad)) 2).run Tryz.prog w= .ok (.pointer (some (ad.add 2))) w:=by kernel_rfl
def sA (x:eJ) (r:Value) (l:List Asn):Prop:=∃v3 v4 v5 v6,r= .agg #[.int .i64 x.code,.int .i64 x.reply,.int .i64 x.val,v3,v4,v5,v6]∧l= [aG cX x.bytes [v3],aG fB x.names [v4],aG aP x.fs.inodes [v5],aG cG x.fs.data [v6]]
def vK:Kd oW:=aFj (jM (iQ .i64) (jM uM (jM uM (jM (iQ .i64) (jM (iQ .i64) cX))))) (fun x=>(x.kind,x.path,x.to,x.frm,x.size,x.data))
theorem fZ:(Tryz.prog.info? 158).map (·.size)=some 6:=by kernel_rfl
theorem aNl:(Tryz.prog.info? 158).map (·.zero)=some (some (.agg #[.int .i64 0,.string ⟨#[]⟩,.string ⟨#[]⟩,.int .i64 0,.int .i64 0,.slice none 0 0])):=by kernel_rfl
theorem jO:eP Tryz.prog 158 true:=by unfold eP;kernel_rfl
theorem jN:kM Tryz.prog 158 (.agg #[.int .i64 0,.string ⟨#[]⟩,.string ⟨#[]⟩,.int .i64 0,.int .i64 0,.slice none 0 0]) #[(0,1),(1,1),(2,1),(3,1),(4,1),(5,1)]:=⟨by kernel_rfl,by kernel_rfl,fun w=>by kernel_rfl⟩
theorem pX (ad:Addr) (w:World):(Instr.fieldAt 158 (.pointer (some ad)) 0).run Tryz.prog w= .ok (.pointer (some (ad.add 0))) w:=by kernel_rfl
theorem nB (ad:Addr) (w:World):(Instr.fieldAt 158 (.pointer (some ad)) 1).run Tryz.prog w= .ok (.pointer (some (ad.add 1))) w:=by kernel_rfl
theorem aBw (ad:Addr) (w:World):(Instr.fieldAt 158 (.pointer (some ad)) 2).run Tryz.prog w= .ok (.pointer (some (ad.add 2))) w:=by kernel_rfl
theorem aCq (ad:Addr) (w:World):(Instr.fieldAt 158 (.pointer (some ad)) 3).run Tryz.prog w= .ok (.pointer (some (ad.add 3))) w:=by kernel_rfl
theorem aB6 (ad:Addr) (w:World):(Instr.fieldAt 158 (.pointer (some ad)) 4).run Tryz.prog w= .ok (.pointer (some (ad.add 4))) w:=by kernel_rfl
theorem aIg (ad:Addr) (w:World):(Instr.fieldAt 158 (.pointer (some ad)) 5).run Tryz.prog w= .ok (.pointer (some (ad.add 5))) w:=by kernel_rfl
theorem sK {w:World}{F:Bs}{x:oW}{cs:List Value} (h:vK.ro w F x cs):∃v5,cs= [.int .i64 x.kind,.string x.path,.string x.to,.int .i64 x.frm,.int .i64 x.size,v5]∧cX.ro w F x.data [v5]∧x.path.size≤140737488351232∧x.to.size≤140737488351232:=by
  obtain⟨_,_,rfl,⟨rfl, -⟩,⟨_,_,rfl,⟨rfl,s1⟩,⟨_,_,rfl,⟨rfl,s2⟩,⟨_,_,rfl,⟨rfl, -⟩,⟨_,_,rfl,⟨rfl, -⟩,h5⟩⟩⟩⟩⟩:=h
  obtain⟨v5,rfl⟩:=mD h5
  exact⟨v5,rfl,h5,s1,s2⟩
theorem iM {w:World}{F:Bs} (x:oW) {v5:Value} (h5:cX.ro w F x.data [v5]) (s1:x.path.size≤140737488351232) (s2:x.to.size≤140737488351232):vK.ro w F x [.int .i64 x.kind,.string x.path,.string x.to,.int .i64 x.frm,.int .i64 x.size,v5]:=
  ⟨_,_,rfl,⟨rfl,trivial⟩,⟨_,_,rfl,⟨rfl,s1⟩,⟨_,_,rfl,⟨rfl,s2⟩,⟨_,_,rfl,⟨rfl,trivial⟩,⟨_,_,rfl,⟨rfl,trivial⟩,h5⟩⟩⟩⟩⟩
theorem qD:(Tryz.prog.info? 190).map (·.size)=some 5:=by kernel_rfl
theorem aJu:(Tryz.prog.info? 190).map (·.zero)=some (some (.agg #[.int .i64 0,.int .i64 0,.int .i64 0,.int .i64 0,.int .i64 0])):=by kernel_rfl
theorem aAc:eP Tryz.prog 190 true:=by unfold eP;kernel_rfl
theorem aBc:kM Tryz.prog 190 (.agg #[.int .i64 0,.int .i64 0,.int .i64 0,.int .i64 0,.int .i64 0]) #[(0,1),(1,1),(2,1),(3,1),(4,1)]:=⟨by kernel_rfl,by kernel_rfl,fun w=>by kernel_rfl⟩
theorem aGe (ad:Addr) (w:World):(Instr.fieldAt 190 (.pointer (some ad)) 0).run Tryz.prog w= .ok (.pointer (some (ad.add 0))) w:=by kernel_rfl
theorem aG9 (ad:Addr) (w:World):(Instr.fieldAt 190 (.pointer (some ad)) 2).run Tryz.prog w= .ok (.pointer (some (ad.add 2))) w:=by kernel_rfl
theorem aIb (ad:Addr) (w:World):(Instr.fieldAt 190 (.pointer (some ad)) 3).run Tryz.prog w= .ok (.pointer (some (ad.add 3))) w:=by kernel_rfl
theorem aH8 (ad:Addr) (w:World):(Instr.fieldAt 190 (.pointer (some ad)) 4).run Tryz.prog w= .ok (.pointer (some (ad.add 4))) w:=by kernel_rfl
def aKf (x:aG7) (r:Value) (l:List Asn):Prop:=r= .agg #[.int .i64 x.code,.int .i64 x.inode,.int .i64 x.kind,.int .i64 x.links,.int .i64 x.size]∧l= []
theorem gG:Tryz.prog.follows .mixedOrders=true:=by kernel_rfl
end Go.Proofs.YtmejbfmhaoilmaaGreat

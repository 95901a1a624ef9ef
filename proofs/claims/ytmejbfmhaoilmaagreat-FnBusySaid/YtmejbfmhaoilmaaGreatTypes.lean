/- What is proved: the kinds of this program's types, laid open and put together; facts on its types. No condition. -/
import Derived.Test.YtmejbfmhaoilmaaGreatProg
import Derived.Test.YtmejbfmhaoilmaaGreatBase0
namespace Go.Proofs.YtmejbfmhaoilmaaGreat
open Go Go.RowKit
set_option maxRecDepth 100000
set_option linter.unusedVariables false
set_option linter.unusedSimpArgs false
theorem u_2:Tryz.prog.underlying 2=some (.int .i64):=by kernel_rfl
theorem hP:(Tryz.prog.info? 2).map (·.size)=some 1:=by kernel_rfl
theorem bR:eN Tryz.prog 2 false:=by unfold eN;kernel_rfl
theorem u_4:Tryz.prog.underlying 4=some .bool:=by kernel_rfl
theorem xV:(Tryz.prog.info? 4).map (·.size)=some 1:=by kernel_rfl
theorem aH8:eN Tryz.prog 4 false:=by unfold eN;kernel_rfl
theorem u_5:Tryz.prog.underlying 5=some (.int .u8):=by kernel_rfl
theorem wF:(Tryz.prog.info? 5).map (·.size)=some 1:=by kernel_rfl
theorem aJl:eN Tryz.prog 5 false:=by unfold eN;kernel_rfl
theorem u_9:Tryz.prog.underlying 9=some .string:=by kernel_rfl
theorem uW:(Tryz.prog.info? 9).map (·.size)=some 1:=by kernel_rfl
theorem kP:eN Tryz.prog 9 false:=by unfold eN;kernel_rfl
abbrev bX:Kd (List UInt8):=bQ 5 1 qB
theorem fO:Tryz.prog.underlying 22=some (.slice 5):=by kernel_rfl
theorem lR:eN Tryz.prog 22 false:=by unfold eN;kernel_rfl
theorem kL:(Tryz.prog.info? 22).map (·.size)=some 1:=by kernel_rfl
theorem iM:(Tryz.prog.info? 5).map (fun i=>(i.size,i.bytes,i.zero))=some (qB.sz,1,some (.int .u8 0)):=by kernel_rfl
abbrev aY:Kd (List Int):=bQ 2 8 (gV .i64)
theorem dN:Tryz.prog.underlying 36=some (.slice 2):=by kernel_rfl
theorem eP:eN Tryz.prog 36 false:=by unfold eN;kernel_rfl
theorem yM:(Tryz.prog.info? 36).map (·.size)=some 1:=by kernel_rfl
theorem fI:(Tryz.prog.info? 2).map (fun i=>(i.size,i.bytes,i.zero))=some ((gV .i64).sz,8,some (.int .i64 0)):=by kernel_rfl
def kB:Kd bT:=aE4 (jF uZ (gV .i64)) (fun x=>(x.name,x.ino))
theorem fS:(Tryz.prog.info? 46).map (·.size)=some 2:=by kernel_rfl
theorem aHp:(Tryz.prog.info? 46).map (·.zero)=some (some (.agg #[.string ⟨#[]⟩,.int .i64 0])):=by kernel_rfl
theorem uP:eN Tryz.prog 46 true:=by unfold eN;kernel_rfl
theorem tC:lF Tryz.prog 46 (.agg #[.string ⟨#[]⟩,.int .i64 0]) #[(0,1),(1,1)]:=⟨by kernel_rfl,by kernel_rfl,fun w=>by kernel_rfl⟩
theorem mU (ad:Addr) (w:World):(Instr.fieldAt 46 (.pointer (some ad)) 0).run Tryz.prog w= .ok (.pointer (some (ad.add 0))) w:=by kernel_rfl
theorem iU (ad:Addr) (w:World):(Instr.fieldAt 46 (.pointer (some ad)) 1).run Tryz.prog w= .ok (.pointer (some (ad.add 1))) w:=by kernel_rfl
theorem aFb:Tryz.prog.eqGuardType Tryz.prog.depth 46=false:=by kernel_rfl
theorem aFa (x y:bT) (w:World):(Op.equalIn 10000 46 (.agg #[.string x.name,.int .i64 x.ino]) (.agg #[.string y.name,.int .i64 y.ino])).run Tryz.prog w= .ok (decide (x=y)) w:=by
  rw [run_equalIn_struct w 9999 46 _ _ (by kernel_rfl) (by kernel_rfl)]
  rw [show(Tryz.prog.fieldsOf 46).toList= [(Tryz.prog.fieldsOf 46)[0]!,(Tryz.prog.fieldsOf 46)[1]!] by kernel_rfl]
  refine((yI (a:= .string x.name) (b:= .string y.name) (by kernel_rfl) (fun w=>by kernel_rfl) (fun w=>by kernel_rfl) (fun w=>run_equalIn_string w 9998 _ x.name y.name (by kernel_rfl)) (yI (a:= .int .i64 x.ino) (b:= .int .i64 y.ino) (by kernel_rfl) (fun w=>by kernel_rfl) (fun w=>by kernel_rfl) (fun w=>run_equalIn_int w 9998 _ .i64 .i64 x.ino y.ino (by kernel_rfl)) aGa)) w).trans ?_
  congr 1;cases x;cases y;simp only [aHn,aHq,Bool.and_true,bT.mk.injEq,Bool.decide_and]
theorem fF {w:World}{F:Bs}{x:bT}{cs:List Value} (h:kB.ro w F x cs):cs= [.string x.name,.int .i64 x.ino]∧x.name.size≤140737488351232:=by
  obtain⟨_,_,rfl,⟨rfl,s0⟩,⟨rfl, -⟩⟩:=h
  exact⟨rfl,s0⟩
theorem tO {w:World}{F:Bs} (x:bT) (s0:x.name.size≤140737488351232):kB.ro w F x [.string x.name,.int .i64 x.ino]:=
  ⟨_,_,rfl,⟨rfl,s0⟩,⟨rfl,trivial⟩⟩
theorem aEk {w:World}{S:Bs}{x:bT}{cs:List Value} (h:kB.own w S x cs):cs= [.string x.name,.int .i64 x.ino]∧cJ [] w S∧x.name.size≤140737488351232:=by
  obtain⟨_,_,rfl,a0⟩:=h
  obtain⟨p0,q0,b0,c0,i0,j0,k0⟩:=aAn a0
  obtain⟨rfl,s0⟩:=b0
  obtain⟨rfl, -⟩:=c0
  exact⟨rfl,trivial,s0⟩
theorem aGj {x:bT}{cs:List Value} (w:World) (S:Bs) (h:cJ [aG kB x cs] w S):∃g:Unit,(cs= [.string x.name,.int .i64 x.ino]∧x.name.size≤140737488351232)∧cJ [] w S:=by
  obtain⟨h1,h2,s0⟩:=aEk (show kB.own w S x cs from h.head (c:=aG kB x cs))
  exact⟨(),⟨h1,s0⟩,h2⟩
theorem iO {w:World}{S:Bs} (x:bT) (h:cJ [] w S) (s0:x.name.size≤140737488351232):kB.own w S x [.string x.name,.int .i64 x.ino]:=by
  have m1:Mk uZ x.name [.string x.name] []:=(aJm s0)
  have m2:Mk (gV .i64) x.ino [.int .i64 x.ino] []:=zF
  have m3:Mk (jF uZ (gV .i64)) (x.name,x.ino) ([.string x.name]++ [.int .i64 x.ino]) ([]++ []):=tD m1 m2
  have m0:Mk kB x ([.string x.name]++ [.int .i64 x.ino]) ([]++ []):=m3
  exact m0 w S h
abbrev dL:Kd (List bT):=bQ 46 24 kB
theorem dQ:Tryz.prog.underlying 42=some (.slice 46):=by kernel_rfl
theorem eA:eN Tryz.prog 42 false:=by unfold eN;kernel_rfl
theorem pX:(Tryz.prog.info? 42).map (·.size)=some 1:=by kernel_rfl
theorem eF:(Tryz.prog.info? 46).map (fun i=>(i.size,i.bytes,i.zero))=some (kB.sz,24,some (.agg #[.string ⟨#[]⟩,.int .i64 0])):=by kernel_rfl
def cA:Kd aF:=aE4 (jF (gV .i64) (jF (gV .i64) (jF (gV .i64) (jF aY dL)))) (fun x=>(x.kind,x.links,x.size,x.blocks,x.ents))
theorem aU:(Tryz.prog.info? 44).map (·.size)=some 5:=by kernel_rfl
theorem qH:(Tryz.prog.info? 44).map (·.zero)=some (some (.agg #[.int .i64 0,.int .i64 0,.int .i64 0,.slice none 0 0,.slice none 0 0])):=by kernel_rfl
theorem fA:eN Tryz.prog 44 true:=by unfold eN;kernel_rfl
theorem qJ:lF Tryz.prog 44 (.agg #[.int .i64 0,.int .i64 0,.int .i64 0,.slice none 0 0,.slice none 0 0]) #[(0,1),(1,1),(2,1),(3,1),(4,1)]:=⟨by kernel_rfl,by kernel_rfl,fun w=>by kernel_rfl⟩
theorem bW (ad:Addr) (w:World):(Instr.fieldAt 44 (.pointer (some ad)) 0).run Tryz.prog w= .ok (.pointer (some (ad.add 0))) w:=by kernel_rfl
theorem iR (ad:Addr) (w:World):(Instr.fieldAt 44 (.pointer (some ad)) 1).run Tryz.prog w= .ok (.pointer (some (ad.add 1))) w:=by kernel_rfl
theorem gH (ad:Addr) (w:World):(Instr.fieldAt 44 (.pointer (some ad)) 2).run Tryz.prog w= .ok (.pointer (some (ad.add 2))) w:=by kernel_rfl
theorem cS (ad:Addr) (w:World):(Instr.fieldAt 44 (.pointer (some ad)) 3).run Tryz.prog w= .ok (.pointer (some (ad.add 3))) w:=by kernel_rfl
theorem bM (ad:Addr) (w:World):(Instr.fieldAt 44 (.pointer (some ad)) 4).run Tryz.prog w= .ok (.pointer (some (ad.add 4))) w:=by kernel_rfl
theorem bV {w:World}{F:Bs}{x:aF}{cs:List Value} (h:cA.ro w F x cs):∃v3 v4,cs= [.int .i64 x.kind,.int .i64 x.links,.int .i64 x.size,v3,v4]∧aY.ro w F x.blocks [v3]∧dL.ro w F x.ents [v4]:=by
  obtain⟨_,_,rfl,⟨rfl, -⟩,⟨_,_,rfl,⟨rfl, -⟩,⟨_,_,rfl,⟨rfl, -⟩,⟨_,_,rfl,h3,h4⟩⟩⟩⟩:=h
  obtain⟨v3,rfl⟩:=lB h3
  obtain⟨v4,rfl⟩:=lB h4
  exact⟨v3,v4,rfl,h3,h4⟩
theorem gZ {w:World}{F:Bs} (x:aF) {v3:Value}{v4:Value} (h3:aY.ro w F x.blocks [v3]) (h4:dL.ro w F x.ents [v4]):cA.ro w F x [.int .i64 x.kind,.int .i64 x.links,.int .i64 x.size,v3,v4]:=
  ⟨_,_,rfl,⟨rfl,trivial⟩,⟨_,_,rfl,⟨rfl,trivial⟩,⟨_,_,rfl,⟨rfl,trivial⟩,⟨_,_,rfl,h3,h4⟩⟩⟩⟩
theorem aE1 {w:World}{S:Bs}{x:aF}{cs:List Value} (h:cA.own w S x cs):∃v3 v4,cs= [.int .i64 x.kind,.int .i64 x.links,.int .i64 x.size,v3,v4]∧cJ [aG aY x.blocks [v3],aG dL x.ents [v4]] w S:=by
  obtain⟨_,_,rfl,a0⟩:=h
  obtain⟨p0,q0,b0,c0,i0,j0,k0⟩:=aAn a0
  obtain⟨rfl, -⟩:=b0
  obtain⟨_,_,rfl,a1⟩:=c0
  obtain⟨p1,q1,b1,c1,i1,j1,k1⟩:=aAn a1
  obtain⟨rfl, -⟩:=b1
  obtain⟨_,_,rfl,a2⟩:=c1
  obtain⟨p2,q2,b2,c2,i2,j2,k2⟩:=aAn a2
  obtain⟨rfl, -⟩:=b2
  obtain⟨_,_,rfl,a3⟩:=c2
  obtain⟨p3,q3,b3,c3,i3,j3,k3⟩:=aAn a3
  obtain⟨v3,rfl⟩:=aDi b3
  have g4:=cJ.one (c:=aG aY x.blocks [v3]) b3
  obtain⟨v4,rfl⟩:=aDi c3
  have g5:=cJ.one (c:=aG dL x.ents [v4]) c3
  have g6:=g4.app g5 i3 j3 k3
  have g7:=g6.up j2
  have g8:=g7.up j1
  have g9:=g8.up j0
  exact⟨v3,v4,rfl,g9⟩
theorem eZ {x:aF}{cs:List Value} (w:World) (S:Bs) (h:cJ [aG cA x cs] w S):∃g:Value×Value,cs= [.int .i64 x.kind,.int .i64 x.links,.int .i64 x.size,g.1,g.2]∧cJ [aG aY x.blocks [g.1],aG dL x.ents [g.2]] w S:=by
  obtain⟨v3,v4,h1,h2⟩:=aE1 (show cA.own w S x cs from h.head (c:=aG cA x cs))
  exact⟨(v3,v4),h1,h2⟩
theorem cP {w:World}{S:Bs} (x:aF) {v3:Value}{v4:Value} (h:cJ [aG aY x.blocks [v3],aG dL x.ents [v4]] w S):cA.own w S x [.int .i64 x.kind,.int .i64 x.links,.int .i64 x.size,v3,v4]:=by
  have m1:Mk (gV .i64) x.kind [.int .i64 x.kind] []:=zF
  have m2:Mk (gV .i64) x.links [.int .i64 x.links] []:=zF
  have m3:Mk (gV .i64) x.size [.int .i64 x.size] []:=zF
  have m4:Mk aY x.blocks [v3] [aG aY x.blocks [v3]]:=aDn
  have m5:Mk dL x.ents [v4] [aG dL x.ents [v4]]:=aDn
  have m6:Mk (jF aY dL) (x.blocks,x.ents) ([v3]++ [v4]) ([aG aY x.blocks [v3]]++ [aG dL x.ents [v4]]):=tD m4 m5
  have m7:Mk (jF (gV .i64) (jF aY dL)) (x.size,(x.blocks,x.ents)) ([.int .i64 x.size]++([v3]++ [v4])) ([]++([aG aY x.blocks [v3]]++ [aG dL x.ents [v4]])):=tD m3 m6
  have m8:Mk (jF (gV .i64) (jF (gV .i64) (jF aY dL))) (x.links,(x.size,(x.blocks,x.ents))) ([.int .i64 x.links]++([.int .i64 x.size]++([v3]++ [v4]))) ([]++([]++([aG aY x.blocks [v3]]++ [aG dL x.ents [v4]]))):=tD m2 m7
  have m9:Mk (jF (gV .i64) (jF (gV .i64) (jF (gV .i64) (jF aY dL)))) (x.kind,(x.links,(x.size,(x.blocks,x.ents)))) ([.int .i64 x.kind]++([.int .i64 x.links]++([.int .i64 x.size]++([v3]++ [v4])))) ([]++([]++([]++([aG aY x.blocks [v3]]++ [aG dL x.ents [v4]])))):=tD m1 m8
  have m0:Mk cA x ([.int .i64 x.kind]++([.int .i64 x.links]++([.int .i64 x.size]++([v3]++ [v4])))) ([]++([]++([]++([aG aY x.blocks [v3]]++ [aG dL x.ents [v4]])))):=m9
  exact m0 w S h
def aLz (x:aF) (r:Value) (l:List Asn):Prop:=∃v3 v4,r= .agg #[.int .i64 x.kind,.int .i64 x.links,.int .i64 x.size,v3,v4]∧l= [aG aY x.blocks [v3],aG dL x.ents [v4]]
theorem aHo (w:World) (S:Bs):cA.own w S (⟨0,0,0,[],[]⟩:aF) [.int .i64 0,.int .i64 0,.int .i64 0,.slice none 0 0,.slice none 0 0]:=cP (⟨0,0,0,[],[]⟩:aF) (⟨fun _=>False,fun _=>False,aK _ _ none,⟨fun _=>False,fun _=>False,aK _ _ none,trivial,fun _ h=>h.elim,fun _ h=>h.elim,fun _ h=>h.elim⟩,fun _ h=>h.elim,fun _ h=>h.elim,fun _ h=>h.elim⟩)
abbrev aW:Kd (List aF):=bQ 44 72 cA
theorem cI:Tryz.prog.underlying 24=some (.slice 44):=by kernel_rfl
theorem bO:eN Tryz.prog 24 false:=by unfold eN;kernel_rfl
theorem aC7:(Tryz.prog.info? 24).map (·.size)=some 1:=by kernel_rfl
theorem lI:(Tryz.prog.info? 44).map (fun i=>(i.size,i.bytes,i.zero))=some (cA.sz,72,some (.agg #[.int .i64 0,.int .i64 0,.int .i64 0,.slice none 0 0,.slice none 0 0])):=by kernel_rfl
abbrev cV:Kd (List (List UInt8)):=bQ 22 24 bX
theorem lE:Tryz.prog.underlying 25=some (.slice 22):=by kernel_rfl
theorem kN:eN Tryz.prog 25 false:=by unfold eN;kernel_rfl
theorem aIr:(Tryz.prog.info? 25).map (·.size)=some 1:=by kernel_rfl
theorem vT:(Tryz.prog.info? 22).map (fun i=>(i.size,i.bytes,i.zero))=some (bX.sz,24,some (.slice none 0 0)):=by kernel_rfl
def eS:Kd DFs:=aE4 (jF aW cV) (fun x=>(x.inodes,x.data))
theorem aX:(Tryz.prog.info? 27).map (·.size)=some 2:=by kernel_rfl
theorem mQ:(Tryz.prog.info? 27).map (·.zero)=some (some (.agg #[.slice none 0 0,.slice none 0 0])):=by kernel_rfl
theorem bN:eN Tryz.prog 27 true:=by unfold eN;kernel_rfl
theorem aGc:lF Tryz.prog 27 (.agg #[.slice none 0 0,.slice none 0 0]) #[(0,1),(1,1)]:=⟨by kernel_rfl,by kernel_rfl,fun w=>by kernel_rfl⟩
theorem aP (ad:Addr) (w:World):(Instr.fieldAt 27 (.pointer (some ad)) 0).run Tryz.prog w= .ok (.pointer (some (ad.add 0))) w:=by kernel_rfl
theorem fV (ad:Addr) (w:World):(Instr.fieldAt 27 (.pointer (some ad)) 1).run Tryz.prog w= .ok (.pointer (some (ad.add 1))) w:=by kernel_rfl
theorem cQ {w:World}{F:Bs}{x:DFs}{cs:List Value} (h:eS.ro w F x cs):∃v0 v1,cs= [v0,v1]∧aW.ro w F x.inodes [v0]∧cV.ro w F x.data [v1]:=by
  obtain⟨_,_,rfl,h0,h1⟩:=h
  obtain⟨v0,rfl⟩:=lB h0
  obtain⟨v1,rfl⟩:=lB h1
  exact⟨v0,v1,rfl,h0,h1⟩
theorem aM {w:World}{F:Bs} (x:DFs) {v0:Value}{v1:Value} (h0:aW.ro w F x.inodes [v0]) (h1:cV.ro w F x.data [v1]):eS.ro w F x [v0,v1]:=
  ⟨_,_,rfl,h0,h1⟩
def aGx (x:DFs) (r:Value) (l:List Asn):Prop:=∃v0 v1,r= .agg #[v0,v1]∧l= [aG aW x.inodes [v0],aG cV x.data [v1]]
def aDj (g e s:Nat) (post:List Value) (x:DFs) (r:Value) (l:List Asn):Prop:=∃v0 v1,r= .tuple #[]∧l= [bZ g e s 1 (v0 :: v1 :: post),aG aW x.inodes [v0],aG cV x.data [v1]]
theorem iX:(Tryz.prog.info? 31).map (·.size)=some 2:=by kernel_rfl
theorem aFd:(Tryz.prog.info? 31).map (·.zero)=some (some (.agg #[.int .i64 0,.slice none 0 0])):=by kernel_rfl
theorem pK:eN Tryz.prog 31 true:=by unfold eN;kernel_rfl
theorem qS:lF Tryz.prog 31 (.agg #[.int .i64 0,.slice none 0 0]) #[(0,1),(1,1)]:=⟨by kernel_rfl,by kernel_rfl,fun w=>by kernel_rfl⟩
theorem vP (ad:Addr) (w:World):(Instr.fieldAt 31 (.pointer (some ad)) 0).run Tryz.prog w= .ok (.pointer (some (ad.add 0))) w:=by kernel_rfl
theorem sB (ad:Addr) (w:World):(Instr.fieldAt 31 (.pointer (some ad)) 1).run Tryz.prog w= .ok (.pointer (some (ad.add 1))) w:=by kernel_rfl
def aF3 (x:aCm) (r:Value) (l:List Asn):Prop:=∃v1,r= .agg #[.int .i64 x.code,v1]∧l= [aG bX x.bytes [v1]]
theorem rG:(Tryz.prog.info? 38).map (·.size)=some 2:=by kernel_rfl
theorem aH9:(Tryz.prog.info? 38).map (·.zero)=some (some (.agg #[.int .i64 0,.slice none 0 0])):=by kernel_rfl
theorem aDe:eN Tryz.prog 38 true:=by unfold eN;kernel_rfl
theorem aEh:lF Tryz.prog 38 (.agg #[.int .i64 0,.slice none 0 0]) #[(0,1),(1,1)]:=⟨by kernel_rfl,by kernel_rfl,fun w=>by kernel_rfl⟩
theorem aDk (ad:Addr) (w:World):(Instr.fieldAt 38 (.pointer (some ad)) 0).run Tryz.prog w= .ok (.pointer (some (ad.add 0))) w:=by kernel_rfl
theorem aIa (ad:Addr) (w:World):(Instr.fieldAt 38 (.pointer (some ad)) 1).run Tryz.prog w= .ok (.pointer (some (ad.add 1))) w:=by kernel_rfl
def aL5 (x:jI) (r:Value) (l:List Asn):Prop:=∃v1,r= .agg #[.int .i64 x.code,v1]∧l= [aG aY x.list [v1]]
theorem fH:(Tryz.prog.info? 48).map (·.size)=some 3:=by kernel_rfl
theorem vZ:(Tryz.prog.info? 48).map (·.zero)=some (some (.agg #[.int .i64 0,.slice none 0 0,.slice none 0 0])):=by kernel_rfl
theorem lN:eN Tryz.prog 48 true:=by unfold eN;kernel_rfl
theorem mZ:lF Tryz.prog 48 (.agg #[.int .i64 0,.slice none 0 0,.slice none 0 0]) #[(0,1),(1,2)]:=⟨by kernel_rfl,by kernel_rfl,fun w=>by kernel_rfl⟩
theorem oL (ad:Addr) (w:World):(Instr.fieldAt 48 (.pointer (some ad)) 0).run Tryz.prog w= .ok (.pointer (some (ad.add 0))) w:=by kernel_rfl
theorem lY (ad:Addr) (w:World):(Instr.fieldAt 48 (.pointer (some ad)) 1).run Tryz.prog w= .ok (.pointer (some (ad.add 1))) w:=by kernel_rfl
def wE (x:RFs) (r:Value) (l:List Asn):Prop:=∃v1 v2,r= .agg #[.int .i64 x.code,v1,v2]∧l= [aG aW x.fs.inodes [v1],aG cV x.fs.data [v2]]
abbrev fJ:Kd (List ByteArray):=bQ 9 16 uZ
theorem jJ:Tryz.prog.underlying 63=some (.slice 9):=by kernel_rfl
theorem aIp:eN Tryz.prog 63 false:=by unfold eN;kernel_rfl
theorem aKw:(Tryz.prog.info? 63).map (·.size)=some 1:=by kernel_rfl
theorem mX:(Tryz.prog.info? 9).map (fun i=>(i.size,i.bytes,i.zero))=some (uZ.sz,16,some (.string ⟨#[]⟩)):=by kernel_rfl
theorem wW:(Tryz.prog.info? 65).map (·.size)=some 2:=by kernel_rfl
theorem aJ4:(Tryz.prog.info? 65).map (·.zero)=some (some (.agg #[.int .i64 0,.slice none 0 0])):=by kernel_rfl
theorem aG2:eN Tryz.prog 65 true:=by unfold eN;kernel_rfl
theorem aI7:lF Tryz.prog 65 (.agg #[.int .i64 0,.slice none 0 0]) #[(0,1),(1,1)]:=⟨by kernel_rfl,by kernel_rfl,fun w=>by kernel_rfl⟩
theorem aEe (ad:Addr) (w:World):(Instr.fieldAt 65 (.pointer (some ad)) 0).run Tryz.prog w= .ok (.pointer (some (ad.add 0))) w:=by kernel_rfl
theorem zY (ad:Addr) (w:World):(Instr.fieldAt 65 (.pointer (some ad)) 1).run Tryz.prog w= .ok (.pointer (some (ad.add 1))) w:=by kernel_rfl
def aK3 (x:aFo) (r:Value) (l:List Asn):Prop:=∃v1,r= .agg #[.int .i64 x.code,v1]∧l= [aG fJ x.names [v1]]
theorem aJ1:lF Tryz.prog 119 (.agg #[.slice none 0 0,.int .i64 0]) #[(0,1),(1,1)]:=⟨by kernel_rfl,by kernel_rfl,fun w=>by kernel_rfl⟩
theorem xO (ad:Addr) (w:World):(Instr.fieldAt 119 (.pointer (some ad)) 0).run Tryz.prog w= .ok (.pointer (some (ad.add 0))) w:=by kernel_rfl
theorem vX (ad:Addr) (w:World):(Instr.fieldAt 119 (.pointer (some ad)) 1).run Tryz.prog w= .ok (.pointer (some (ad.add 1))) w:=by kernel_rfl
abbrev sH:Kd (List Bool):=bQ 4 1 yF
theorem qO:Tryz.prog.underlying 129=some (.slice 4):=by kernel_rfl
theorem aIv:(Tryz.prog.info? 4).map (fun i=>(i.size,i.bytes,i.zero))=some (yF.sz,1,some (.bool false)):=by kernel_rfl
theorem bA:(Tryz.prog.info? 155).map (·.size)=some 7:=by kernel_rfl
theorem tA:(Tryz.prog.info? 155).map (·.zero)=some (some (.agg #[.int .i64 0,.int .i64 0,.int .i64 0,.slice none 0 0,.slice none 0 0,.slice none 0 0,.slice none 0 0])):=by kernel_rfl
theorem dO:eN Tryz.prog 155 true:=by unfold eN;kernel_rfl
theorem mD:lF Tryz.prog 155 (.agg #[.int .i64 0,.int .i64 0,.int .i64 0,.slice none 0 0,.slice none 0 0,.slice none 0 0,.slice none 0 0]) #[(0,1),(1,1),(2,1),(3,1),(4,1),(5,2)]:=⟨by kernel_rfl,by kernel_rfl,fun w=>by kernel_rfl⟩
theorem aGb (ad:Addr) (w:World):(Instr.fieldAt 155 (.pointer (some ad)) 2).run Tryz.prog w= .ok (.pointer (some (ad.add 2))) w:=by kernel_rfl
def rI (x:eB) (r:Value) (l:List Asn):Prop:=∃v3 v4 v5 v6,r= .agg #[.int .i64 x.code,.int .i64 x.reply,.int .i64 x.val,v3,v4,v5,v6]∧l= [aG bX x.bytes [v3],aG fJ x.names [v4],aG aW x.fs.inodes [v5],aG cV x.fs.data [v6]]
def uD:Kd oP:=aE4 (jF (gV .i64) (jF uZ (jF uZ (jF (gV .i64) (jF (gV .i64) bX))))) (fun x=>(x.kind,x.path,x.to,x.frm,x.size,x.data))
theorem fT:(Tryz.prog.info? 158).map (·.size)=some 6:=by kernel_rfl
theorem aKx:(Tryz.prog.info? 158).map (·.zero)=some (some (.agg #[.int .i64 0,.string ⟨#[]⟩,.string ⟨#[]⟩,.int .i64 0,.int .i64 0,.slice none 0 0])):=by kernel_rfl
theorem jK:eN Tryz.prog 158 true:=by unfold eN;kernel_rfl
theorem jM:lF Tryz.prog 158 (.agg #[.int .i64 0,.string ⟨#[]⟩,.string ⟨#[]⟩,.int .i64 0,.int .i64 0,.slice none 0 0]) #[(0,1),(1,1),(2,1),(3,1),(4,1),(5,1)]:=⟨by kernel_rfl,by kernel_rfl,fun w=>by kernel_rfl⟩
theorem pD (ad:Addr) (w:World):(Instr.fieldAt 158 (.pointer (some ad)) 0).run Tryz.prog w= .ok (.pointer (some (ad.add 0))) w:=by kernel_rfl
theorem mY (ad:Addr) (w:World):(Instr.fieldAt 158 (.pointer (some ad)) 1).run Tryz.prog w= .ok (.pointer (some (ad.add 1))) w:=by kernel_rfl
theorem aB6 (ad:Addr) (w:World):(Instr.fieldAt 158 (.pointer (some ad)) 2).run Tryz.prog w= .ok (.pointer (some (ad.add 2))) w:=by kernel_rfl
theorem aA5 (ad:Addr) (w:World):(Instr.fieldAt 158 (.pointer (some ad)) 3).run Tryz.prog w= .ok (.pointer (some (ad.add 3))) w:=by kernel_rfl
theorem aBq (ad:Addr) (w:World):(Instr.fieldAt 158 (.pointer (some ad)) 4).run Tryz.prog w= .ok (.pointer (some (ad.add 4))) w:=by kernel_rfl
theorem aGd (ad:Addr) (w:World):(Instr.fieldAt 158 (.pointer (some ad)) 5).run Tryz.prog w= .ok (.pointer (some (ad.add 5))) w:=by kernel_rfl
theorem rU {w:World}{F:Bs}{x:oP}{cs:List Value} (h:uD.ro w F x cs):∃v5,cs= [.int .i64 x.kind,.string x.path,.string x.to,.int .i64 x.frm,.int .i64 x.size,v5]∧bX.ro w F x.data [v5]∧x.path.size≤140737488351232∧x.to.size≤140737488351232:=by
  obtain⟨_,_,rfl,⟨rfl, -⟩,⟨_,_,rfl,⟨rfl,s1⟩,⟨_,_,rfl,⟨rfl,s2⟩,⟨_,_,rfl,⟨rfl, -⟩,⟨_,_,rfl,⟨rfl, -⟩,h5⟩⟩⟩⟩⟩:=h
  obtain⟨v5,rfl⟩:=lB h5
  exact⟨v5,rfl,h5,s1,s2⟩
theorem iI {w:World}{F:Bs} (x:oP) {v5:Value} (h5:bX.ro w F x.data [v5]) (s1:x.path.size≤140737488351232) (s2:x.to.size≤140737488351232):uD.ro w F x [.int .i64 x.kind,.string x.path,.string x.to,.int .i64 x.frm,.int .i64 x.size,v5]:=
  ⟨_,_,rfl,⟨rfl,trivial⟩,⟨_,_,rfl,⟨rfl,s1⟩,⟨_,_,rfl,⟨rfl,s2⟩,⟨_,_,rfl,⟨rfl,trivial⟩,⟨_,_,rfl,⟨rfl,trivial⟩,h5⟩⟩⟩⟩⟩
theorem pL:(Tryz.prog.info? 190).map (·.size)=some 5:=by kernel_rfl
theorem aIo:(Tryz.prog.info? 190).map (·.zero)=some (some (.agg #[.int .i64 0,.int .i64 0,.int .i64 0,.int .i64 0,.int .i64 0])):=by kernel_rfl
theorem zV:eN Tryz.prog 190 true:=by unfold eN;kernel_rfl
theorem zO:lF Tryz.prog 190 (.agg #[.int .i64 0,.int .i64 0,.int .i64 0,.int .i64 0,.int .i64 0]) #[(0,1),(1,1),(2,1),(3,1),(4,1)]:=⟨by kernel_rfl,by kernel_rfl,fun w=>by kernel_rfl⟩
theorem aGh (ad:Addr) (w:World):(Instr.fieldAt 190 (.pointer (some ad)) 0).run Tryz.prog w= .ok (.pointer (some (ad.add 0))) w:=by kernel_rfl
theorem aGk (ad:Addr) (w:World):(Instr.fieldAt 190 (.pointer (some ad)) 2).run Tryz.prog w= .ok (.pointer (some (ad.add 2))) w:=by kernel_rfl
theorem aFx (ad:Addr) (w:World):(Instr.fieldAt 190 (.pointer (some ad)) 3).run Tryz.prog w= .ok (.pointer (some (ad.add 3))) w:=by kernel_rfl
theorem aFf (ad:Addr) (w:World):(Instr.fieldAt 190 (.pointer (some ad)) 4).run Tryz.prog w= .ok (.pointer (some (ad.add 4))) w:=by kernel_rfl
def aJf (x:aGz) (r:Value) (l:List Asn):Prop:=r= .agg #[.int .i64 x.code,.int .i64 x.inode,.int .i64 x.kind,.int .i64 x.links,.int .i64 x.size]∧l= []
theorem gB:Tryz.prog.follows .mixedOrders=true:=by kernel_rfl
end Go.Proofs.YtmejbfmhaoilmaaGreat

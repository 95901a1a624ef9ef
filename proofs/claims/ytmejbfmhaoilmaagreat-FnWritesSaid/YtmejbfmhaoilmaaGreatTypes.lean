/- What is proved: the kinds of this program's types, laid open and put together; facts on its types. No condition. -/
import Derived.Test.YtmejbfmhaoilmaaGreatProg
import Derived.Test.YtmejbfmhaoilmaaGreatBase0
namespace Go.Proofs.YtmejbfmhaoilmaaGreat
open Go Go.RowKit
set_option maxRecDepth 100000
set_option linter.unusedVariables false
set_option linter.unusedSimpArgs false
theorem u_2:Tryz.prog.underlying 2=some (.int .i64):=by kernel_rfl
theorem jC:(Tryz.prog.info? 2).map (·.size)=some 1:=by kernel_rfl
theorem cB:eO Tryz.prog 2 false:=by unfold eO;kernel_rfl
theorem u_4:Tryz.prog.underlying 4=some .bool:=by kernel_rfl
theorem xV:(Tryz.prog.info? 4).map (·.size)=some 1:=by kernel_rfl
theorem aHq:eO Tryz.prog 4 false:=by unfold eO;kernel_rfl
theorem u_5:Tryz.prog.underlying 5=some (.int .u8):=by kernel_rfl
theorem nJ:(Tryz.prog.info? 5).map (·.size)=some 1:=by kernel_rfl
theorem sL:eO Tryz.prog 5 false:=by unfold eO;kernel_rfl
theorem u_9:Tryz.prog.underlying 9=some .string:=by kernel_rfl
theorem vB:(Tryz.prog.info? 9).map (·.size)=some 1:=by kernel_rfl
theorem kY:eO Tryz.prog 9 false:=by unfold eO;kernel_rfl
abbrev bQ:Kd (List UInt8):=bN 5 1 qR
theorem dP:Tryz.prog.underlying 22=some (.slice 5):=by kernel_rfl
theorem nN:eO Tryz.prog 22 false:=by unfold eO;kernel_rfl
theorem lF:(Tryz.prog.info? 22).map (·.size)=some 1:=by kernel_rfl
theorem iQ:(Tryz.prog.info? 5).map (fun i=>(i.size,i.bytes,i.zero))=some (qR.sz,1,some (.int .u8 0)):=by kernel_rfl
abbrev aY:Kd (List Int):=bN 2 8 (gX .i64)
theorem dW:Tryz.prog.underlying 36=some (.slice 2):=by kernel_rfl
theorem fA:eO Tryz.prog 36 false:=by unfold eO;kernel_rfl
theorem yH:(Tryz.prog.info? 36).map (·.size)=some 1:=by kernel_rfl
theorem fL:(Tryz.prog.info? 2).map (fun i=>(i.size,i.bytes,i.zero))=some ((gX .i64).sz,8,some (.int .i64 0)):=by kernel_rfl
def kJ:Kd bV:=aFb (jN vA (gX .i64)) (fun x=>(x.name,x.ino))
theorem gH:(Tryz.prog.info? 46).map (·.size)=some 2:=by kernel_rfl
theorem aH6:(Tryz.prog.info? 46).map (·.zero)=some (some (.agg #[.string ⟨#[]⟩,.int .i64 0])):=by kernel_rfl
theorem yU:eO Tryz.prog 46 true:=by unfold eO;kernel_rfl
theorem tA:lI Tryz.prog 46 (.agg #[.string ⟨#[]⟩,.int .i64 0]) #[(0,1),(1,1)]:=⟨by kernel_rfl,by kernel_rfl,fun w=>by kernel_rfl⟩
theorem mX (ad:Addr) (w:World):(Instr.fieldAt 46 (.pointer (some ad)) 0).run Tryz.prog w= .ok (.pointer (some (ad.add 0))) w:=by kernel_rfl
theorem iY (ad:Addr) (w:World):(Instr.fieldAt 46 (.pointer (some ad)) 1).run Tryz.prog w= .ok (.pointer (some (ad.add 1))) w:=by kernel_rfl
theorem fV {w:World}{F:Bs}{x:bV}{cs:List Value} (h:kJ.ro w F x cs):cs= [.string x.name,.int .i64 x.ino]∧x.name.size≤140737488351232:=by
  obtain⟨_,_,rfl,⟨rfl,s0⟩,⟨rfl, -⟩⟩:=h
  exact⟨rfl,s0⟩
theorem tM {w:World}{F:Bs} (x:bV) (s0:x.name.size≤140737488351232):kJ.ro w F x [.string x.name,.int .i64 x.ino]:=
  ⟨_,_,rfl,⟨rfl,s0⟩,⟨rfl,trivial⟩⟩
theorem aEr {w:World}{S:Bs}{x:bV}{cs:List Value} (h:kJ.own w S x cs):cs= [.string x.name,.int .i64 x.ino]∧cH [] w S∧x.name.size≤140737488351232:=by
  obtain⟨_,_,rfl,a0⟩:=h
  obtain⟨p0,q0,b0,c0,i0,j0,k0⟩:=aAy a0
  obtain⟨rfl,s0⟩:=b0
  obtain⟨rfl, -⟩:=c0
  exact⟨rfl,trivial,s0⟩
theorem aFx {x:bV}{cs:List Value} (w:World) (S:Bs) (h:cH [aG kJ x cs] w S):∃g:Unit,(cs= [.string x.name,.int .i64 x.ino]∧x.name.size≤140737488351232)∧cH [] w S:=by
  obtain⟨h1,h2,s0⟩:=aEr (show kJ.own w S x cs from h.head (c:=aG kJ x cs))
  exact⟨(),⟨h1,s0⟩,h2⟩
theorem iU {w:World}{S:Bs} (x:bV) (h:cH [] w S) (s0:x.name.size≤140737488351232):kJ.own w S x [.string x.name,.int .i64 x.ino]:=by
  have m1:Mk vA x.name [.string x.name] []:=(aJu s0)
  have m2:Mk (gX .i64) x.ino [.int .i64 x.ino] []:=aAm
  have m3:Mk (jN vA (gX .i64)) (x.name,x.ino) ([.string x.name]++ [.int .i64 x.ino]) ([]++ []):=tD m1 m2
  have m0:Mk kJ x ([.string x.name]++ [.int .i64 x.ino]) ([]++ []):=m3
  exact m0 w S h
abbrev dR:Kd (List bV):=bN 46 24 kJ
theorem eA:Tryz.prog.underlying 42=some (.slice 46):=by kernel_rfl
theorem eE:eO Tryz.prog 42 false:=by unfold eO;kernel_rfl
theorem qD:(Tryz.prog.info? 42).map (·.size)=some 1:=by kernel_rfl
theorem eH:(Tryz.prog.info? 46).map (fun i=>(i.size,i.bytes,i.zero))=some (kJ.sz,24,some (.agg #[.string ⟨#[]⟩,.int .i64 0])):=by kernel_rfl
def cD:Kd aF:=aFb (jN (gX .i64) (jN (gX .i64) (jN (gX .i64) (jN aY dR)))) (fun x=>(x.kind,x.links,x.size,x.blocks,x.ents))
theorem aV:(Tryz.prog.info? 44).map (·.size)=some 5:=by kernel_rfl
theorem sK:(Tryz.prog.info? 44).map (·.zero)=some (some (.agg #[.int .i64 0,.int .i64 0,.int .i64 0,.slice none 0 0,.slice none 0 0])):=by kernel_rfl
theorem fJ:eO Tryz.prog 44 true:=by unfold eO;kernel_rfl
theorem sF:lI Tryz.prog 44 (.agg #[.int .i64 0,.int .i64 0,.int .i64 0,.slice none 0 0,.slice none 0 0]) #[(0,1),(1,1),(2,1),(3,1),(4,1)]:=⟨by kernel_rfl,by kernel_rfl,fun w=>by kernel_rfl⟩
theorem cA (ad:Addr) (w:World):(Instr.fieldAt 44 (.pointer (some ad)) 0).run Tryz.prog w= .ok (.pointer (some (ad.add 0))) w:=by kernel_rfl
theorem jR (ad:Addr) (w:World):(Instr.fieldAt 44 (.pointer (some ad)) 1).run Tryz.prog w= .ok (.pointer (some (ad.add 1))) w:=by kernel_rfl
theorem hX (ad:Addr) (w:World):(Instr.fieldAt 44 (.pointer (some ad)) 2).run Tryz.prog w= .ok (.pointer (some (ad.add 2))) w:=by kernel_rfl
theorem dB (ad:Addr) (w:World):(Instr.fieldAt 44 (.pointer (some ad)) 3).run Tryz.prog w= .ok (.pointer (some (ad.add 3))) w:=by kernel_rfl
theorem bS (ad:Addr) (w:World):(Instr.fieldAt 44 (.pointer (some ad)) 4).run Tryz.prog w= .ok (.pointer (some (ad.add 4))) w:=by kernel_rfl
theorem cM {w:World}{F:Bs}{x:aF}{cs:List Value} (h:cD.ro w F x cs):∃v3 v4,cs= [.int .i64 x.kind,.int .i64 x.links,.int .i64 x.size,v3,v4]∧aY.ro w F x.blocks [v3]∧dR.ro w F x.ents [v4]:=by
  obtain⟨_,_,rfl,⟨rfl, -⟩,⟨_,_,rfl,⟨rfl, -⟩,⟨_,_,rfl,⟨rfl, -⟩,⟨_,_,rfl,h3,h4⟩⟩⟩⟩:=h
  obtain⟨v3,rfl⟩:=lV h3
  obtain⟨v4,rfl⟩:=lV h4
  exact⟨v3,v4,rfl,h3,h4⟩
theorem iW {w:World}{F:Bs} (x:aF) {v3:Value}{v4:Value} (h3:aY.ro w F x.blocks [v3]) (h4:dR.ro w F x.ents [v4]):cD.ro w F x [.int .i64 x.kind,.int .i64 x.links,.int .i64 x.size,v3,v4]:=
  ⟨_,_,rfl,⟨rfl,trivial⟩,⟨_,_,rfl,⟨rfl,trivial⟩,⟨_,_,rfl,⟨rfl,trivial⟩,⟨_,_,rfl,h3,h4⟩⟩⟩⟩
theorem aEw {w:World}{S:Bs}{x:aF}{cs:List Value} (h:cD.own w S x cs):∃v3 v4,cs= [.int .i64 x.kind,.int .i64 x.links,.int .i64 x.size,v3,v4]∧cH [aG aY x.blocks [v3],aG dR x.ents [v4]] w S:=by
  obtain⟨_,_,rfl,a0⟩:=h
  obtain⟨p0,q0,b0,c0,i0,j0,k0⟩:=aAy a0
  obtain⟨rfl, -⟩:=b0
  obtain⟨_,_,rfl,a1⟩:=c0
  obtain⟨p1,q1,b1,c1,i1,j1,k1⟩:=aAy a1
  obtain⟨rfl, -⟩:=b1
  obtain⟨_,_,rfl,a2⟩:=c1
  obtain⟨p2,q2,b2,c2,i2,j2,k2⟩:=aAy a2
  obtain⟨rfl, -⟩:=b2
  obtain⟨_,_,rfl,a3⟩:=c2
  obtain⟨p3,q3,b3,c3,i3,j3,k3⟩:=aAy a3
  obtain⟨v3,rfl⟩:=aDl b3
  have g4:=cH.one (c:=aG aY x.blocks [v3]) b3
  obtain⟨v4,rfl⟩:=aDl c3
  have g5:=cH.one (c:=aG dR x.ents [v4]) c3
  have g6:=g4.app g5 i3 j3 k3
  have g7:=g6.up j2
  have g8:=g7.up j1
  have g9:=g8.up j0
  exact⟨v3,v4,rfl,g9⟩
theorem fC {x:aF}{cs:List Value} (w:World) (S:Bs) (h:cH [aG cD x cs] w S):∃g:Value×Value,cs= [.int .i64 x.kind,.int .i64 x.links,.int .i64 x.size,g.1,g.2]∧cH [aG aY x.blocks [g.1],aG dR x.ents [g.2]] w S:=by
  obtain⟨v3,v4,h1,h2⟩:=aEw (show cD.own w S x cs from h.head (c:=aG cD x cs))
  exact⟨(v3,v4),h1,h2⟩
theorem cS {w:World}{S:Bs} (x:aF) {v3:Value}{v4:Value} (h:cH [aG aY x.blocks [v3],aG dR x.ents [v4]] w S):cD.own w S x [.int .i64 x.kind,.int .i64 x.links,.int .i64 x.size,v3,v4]:=by
  have m1:Mk (gX .i64) x.kind [.int .i64 x.kind] []:=aAm
  have m2:Mk (gX .i64) x.links [.int .i64 x.links] []:=aAm
  have m3:Mk (gX .i64) x.size [.int .i64 x.size] []:=aAm
  have m4:Mk aY x.blocks [v3] [aG aY x.blocks [v3]]:=aDf
  have m5:Mk dR x.ents [v4] [aG dR x.ents [v4]]:=aDf
  have m6:Mk (jN aY dR) (x.blocks,x.ents) ([v3]++ [v4]) ([aG aY x.blocks [v3]]++ [aG dR x.ents [v4]]):=tD m4 m5
  have m7:Mk (jN (gX .i64) (jN aY dR)) (x.size,(x.blocks,x.ents)) ([.int .i64 x.size]++([v3]++ [v4])) ([]++([aG aY x.blocks [v3]]++ [aG dR x.ents [v4]])):=tD m3 m6
  have m8:Mk (jN (gX .i64) (jN (gX .i64) (jN aY dR))) (x.links,(x.size,(x.blocks,x.ents))) ([.int .i64 x.links]++([.int .i64 x.size]++([v3]++ [v4]))) ([]++([]++([aG aY x.blocks [v3]]++ [aG dR x.ents [v4]]))):=tD m2 m7
  have m9:Mk (jN (gX .i64) (jN (gX .i64) (jN (gX .i64) (jN aY dR)))) (x.kind,(x.links,(x.size,(x.blocks,x.ents)))) ([.int .i64 x.kind]++([.int .i64 x.links]++([.int .i64 x.size]++([v3]++ [v4])))) ([]++([]++([]++([aG aY x.blocks [v3]]++ [aG dR x.ents [v4]])))):=tD m1 m8
  have m0:Mk cD x ([.int .i64 x.kind]++([.int .i64 x.links]++([.int .i64 x.size]++([v3]++ [v4])))) ([]++([]++([]++([aG aY x.blocks [v3]]++ [aG dR x.ents [v4]])))):=m9
  exact m0 w S h
def aL2 (x:aF) (r:Value) (l:List Asn):Prop:=∃v3 v4,r= .agg #[.int .i64 x.kind,.int .i64 x.links,.int .i64 x.size,v3,v4]∧l= [aG aY x.blocks [v3],aG dR x.ents [v4]]
theorem aHl (w:World) (S:Bs):cD.own w S (⟨0,0,0,[],[]⟩:aF) [.int .i64 0,.int .i64 0,.int .i64 0,.slice none 0 0,.slice none 0 0]:=cS (⟨0,0,0,[],[]⟩:aF) (⟨fun _=>False,fun _=>False,aL _ _ none,⟨fun _=>False,fun _=>False,aL _ _ none,trivial,fun _ h=>h.elim,fun _ h=>h.elim,fun _ h=>h.elim⟩,fun _ h=>h.elim,fun _ h=>h.elim,fun _ h=>h.elim⟩)
abbrev aW:Kd (List aF):=bN 44 72 cD
theorem cQ:Tryz.prog.underlying 24=some (.slice 44):=by kernel_rfl
theorem bT:eO Tryz.prog 24 false:=by unfold eO;kernel_rfl
theorem aDr:(Tryz.prog.info? 24).map (·.size)=some 1:=by kernel_rfl
theorem lM:(Tryz.prog.info? 44).map (fun i=>(i.size,i.bytes,i.zero))=some (cD.sz,72,some (.agg #[.int .i64 0,.int .i64 0,.int .i64 0,.slice none 0 0,.slice none 0 0])):=by kernel_rfl
abbrev dA:Kd (List (List UInt8)):=bN 22 24 bQ
theorem mU:Tryz.prog.underlying 25=some (.slice 22):=by kernel_rfl
theorem lE:eO Tryz.prog 25 false:=by unfold eO;kernel_rfl
theorem aI5:(Tryz.prog.info? 25).map (·.size)=some 1:=by kernel_rfl
theorem xD:(Tryz.prog.info? 22).map (fun i=>(i.size,i.bytes,i.zero))=some (bQ.sz,24,some (.slice none 0 0)):=by kernel_rfl
def fD:Kd DFs:=aFb (jN aW dA) (fun x=>(x.inodes,x.data))
theorem aX:(Tryz.prog.info? 27).map (·.size)=some 2:=by kernel_rfl
theorem nK:(Tryz.prog.info? 27).map (·.zero)=some (some (.agg #[.slice none 0 0,.slice none 0 0])):=by kernel_rfl
theorem bR:eO Tryz.prog 27 true:=by unfold eO;kernel_rfl
theorem aGc:lI Tryz.prog 27 (.agg #[.slice none 0 0,.slice none 0 0]) #[(0,1),(1,1)]:=⟨by kernel_rfl,by kernel_rfl,fun w=>by kernel_rfl⟩
theorem aO (ad:Addr) (w:World):(Instr.fieldAt 27 (.pointer (some ad)) 0).run Tryz.prog w= .ok (.pointer (some (ad.add 0))) w:=by kernel_rfl
theorem gF (ad:Addr) (w:World):(Instr.fieldAt 27 (.pointer (some ad)) 1).run Tryz.prog w= .ok (.pointer (some (ad.add 1))) w:=by kernel_rfl
theorem cV {w:World}{F:Bs}{x:DFs}{cs:List Value} (h:fD.ro w F x cs):∃v0 v1,cs= [v0,v1]∧aW.ro w F x.inodes [v0]∧dA.ro w F x.data [v1]:=by
  obtain⟨_,_,rfl,h0,h1⟩:=h
  obtain⟨v0,rfl⟩:=lV h0
  obtain⟨v1,rfl⟩:=lV h1
  exact⟨v0,v1,rfl,h0,h1⟩
theorem aK {w:World}{F:Bs} (x:DFs) {v0:Value}{v1:Value} (h0:aW.ro w F x.inodes [v0]) (h1:dA.ro w F x.data [v1]):fD.ro w F x [v0,v1]:=
  ⟨_,_,rfl,h0,h1⟩
def aFj (x:DFs) (r:Value) (l:List Asn):Prop:=∃v0 v1,r= .agg #[v0,v1]∧l= [aG aW x.inodes [v0],aG dA x.data [v1]]
def aHc (g e s:Nat) (post:List Value) (x:DFs) (r:Value) (l:List Asn):Prop:=∃v0 v1,r= .tuple #[]∧l= [bW g e s 1 (v0 :: v1 :: post),aG aW x.inodes [v0],aG dA x.data [v1]]
theorem iL:(Tryz.prog.info? 31).map (·.size)=some 2:=by kernel_rfl
theorem aFh:(Tryz.prog.info? 31).map (·.zero)=some (some (.agg #[.int .i64 0,.slice none 0 0])):=by kernel_rfl
theorem nZ:eO Tryz.prog 31 true:=by unfold eO;kernel_rfl
theorem pP:lI Tryz.prog 31 (.agg #[.int .i64 0,.slice none 0 0]) #[(0,1),(1,1)]:=⟨by kernel_rfl,by kernel_rfl,fun w=>by kernel_rfl⟩
theorem zI (ad:Addr) (w:World):(Instr.fieldAt 31 (.pointer (some ad)) 0).run Tryz.prog w= .ok (.pointer (some (ad.add 0))) w:=by kernel_rfl
theorem vM (ad:Addr) (w:World):(Instr.fieldAt 31 (.pointer (some ad)) 1).run Tryz.prog w= .ok (.pointer (some (ad.add 1))) w:=by kernel_rfl
def aEj (x:aCe) (r:Value) (l:List Asn):Prop:=∃v1,r= .agg #[.int .i64 x.code,v1]∧l= [aG bQ x.bytes [v1]]
theorem qL:(Tryz.prog.info? 38).map (·.size)=some 2:=by kernel_rfl
theorem aHs:(Tryz.prog.info? 38).map (·.zero)=some (some (.agg #[.int .i64 0,.slice none 0 0])):=by kernel_rfl
theorem aEh:eO Tryz.prog 38 true:=by unfold eO;kernel_rfl
theorem aEf:lI Tryz.prog 38 (.agg #[.int .i64 0,.slice none 0 0]) #[(0,1),(1,1)]:=⟨by kernel_rfl,by kernel_rfl,fun w=>by kernel_rfl⟩
theorem aD5 (ad:Addr) (w:World):(Instr.fieldAt 38 (.pointer (some ad)) 0).run Tryz.prog w= .ok (.pointer (some (ad.add 0))) w:=by kernel_rfl
theorem aId (ad:Addr) (w:World):(Instr.fieldAt 38 (.pointer (some ad)) 1).run Tryz.prog w= .ok (.pointer (some (ad.add 1))) w:=by kernel_rfl
def aKz (x:jM) (r:Value) (l:List Asn):Prop:=∃v1,r= .agg #[.int .i64 x.code,v1]∧l= [aG aY x.list [v1]]
theorem gV:(Tryz.prog.info? 48).map (·.size)=some 3:=by kernel_rfl
theorem aCu:(Tryz.prog.info? 48).map (·.zero)=some (some (.agg #[.int .i64 0,.slice none 0 0,.slice none 0 0])):=by kernel_rfl
theorem nX:eO Tryz.prog 48 true:=by unfold eO;kernel_rfl
theorem pQ:lI Tryz.prog 48 (.agg #[.int .i64 0,.slice none 0 0,.slice none 0 0]) #[(0,1),(1,2)]:=⟨by kernel_rfl,by kernel_rfl,fun w=>by kernel_rfl⟩
theorem rU (ad:Addr) (w:World):(Instr.fieldAt 48 (.pointer (some ad)) 0).run Tryz.prog w= .ok (.pointer (some (ad.add 0))) w:=by kernel_rfl
theorem mW (ad:Addr) (w:World):(Instr.fieldAt 48 (.pointer (some ad)) 1).run Tryz.prog w= .ok (.pointer (some (ad.add 1))) w:=by kernel_rfl
def aBs (x:RFs) (r:Value) (l:List Asn):Prop:=∃v1 v2,r= .agg #[.int .i64 x.code,v1,v2]∧l= [aG aW x.fs.inodes [v1],aG dA x.fs.data [v2]]
abbrev fM:Kd (List ByteArray):=bN 9 16 vA
theorem jQ:Tryz.prog.underlying 63=some (.slice 9):=by kernel_rfl
theorem aIr:eO Tryz.prog 63 false:=by unfold eO;kernel_rfl
theorem aLi:(Tryz.prog.info? 63).map (·.size)=some 1:=by kernel_rfl
theorem nC:(Tryz.prog.info? 9).map (fun i=>(i.size,i.bytes,i.zero))=some (vA.sz,16,some (.string ⟨#[]⟩)):=by kernel_rfl
theorem wB:(Tryz.prog.info? 65).map (·.size)=some 2:=by kernel_rfl
theorem aJm:(Tryz.prog.info? 65).map (·.zero)=some (some (.agg #[.int .i64 0,.slice none 0 0])):=by kernel_rfl
theorem aFw:eO Tryz.prog 65 true:=by unfold eO;kernel_rfl
theorem aIj:lI Tryz.prog 65 (.agg #[.int .i64 0,.slice none 0 0]) #[(0,1),(1,1)]:=⟨by kernel_rfl,by kernel_rfl,fun w=>by kernel_rfl⟩
theorem aEn (ad:Addr) (w:World):(Instr.fieldAt 65 (.pointer (some ad)) 0).run Tryz.prog w= .ok (.pointer (some (ad.add 0))) w:=by kernel_rfl
theorem zF (ad:Addr) (w:World):(Instr.fieldAt 65 (.pointer (some ad)) 1).run Tryz.prog w= .ok (.pointer (some (ad.add 1))) w:=by kernel_rfl
def aKa (x:aHf) (r:Value) (l:List Asn):Prop:=∃v1,r= .agg #[.int .i64 x.code,v1]∧l= [aG fM x.names [v1]]
theorem aJn:lI Tryz.prog 119 (.agg #[.slice none 0 0,.int .i64 0]) #[(0,1),(1,1)]:=⟨by kernel_rfl,by kernel_rfl,fun w=>by kernel_rfl⟩
theorem xC (ad:Addr) (w:World):(Instr.fieldAt 119 (.pointer (some ad)) 0).run Tryz.prog w= .ok (.pointer (some (ad.add 0))) w:=by kernel_rfl
theorem vZ (ad:Addr) (w:World):(Instr.fieldAt 119 (.pointer (some ad)) 1).run Tryz.prog w= .ok (.pointer (some (ad.add 1))) w:=by kernel_rfl
abbrev sG:Kd (List Bool):=bN 4 1 yE
theorem qS:Tryz.prog.underlying 129=some (.slice 4):=by kernel_rfl
theorem aIi:(Tryz.prog.info? 4).map (fun i=>(i.size,i.bytes,i.zero))=some (yE.sz,1,some (.bool false)):=by kernel_rfl
theorem bD:(Tryz.prog.info? 155).map (·.size)=some 7:=by kernel_rfl
theorem tE:(Tryz.prog.info? 155).map (·.zero)=some (some (.agg #[.int .i64 0,.int .i64 0,.int .i64 0,.slice none 0 0,.slice none 0 0,.slice none 0 0,.slice none 0 0])):=by kernel_rfl
theorem dO:eO Tryz.prog 155 true:=by unfold eO;kernel_rfl
theorem mR:lI Tryz.prog 155 (.agg #[.int .i64 0,.int .i64 0,.int .i64 0,.slice none 0 0,.slice none 0 0,.slice none 0 0,.slice none 0 0]) #[(0,1),(1,1),(2,1),(3,1),(4,1),(5,2)]:=⟨by kernel_rfl,by kernel_rfl,fun w=>by kernel_rfl⟩
theorem aG0 (ad:Addr) (w:World):(Instr.fieldAt 155 (.pointer (some ad)) 2).run Tryz.prog w= .ok (.pointer (some (ad.add 2))) w:=by kernel_rfl
def qK (x:eD) (r:Value) (l:List Asn):Prop:=∃v3 v4 v5 v6,r= .agg #[.int .i64 x.code,.int .i64 x.reply,.int .i64 x.val,v3,v4,v5,v6]∧l= [aG bQ x.bytes [v3],aG fM x.names [v4],aG aW x.fs.inodes [v5],aG dA x.fs.data [v6]]
def uJ:Kd oR:=aFb (jN (gX .i64) (jN vA (jN vA (jN (gX .i64) (jN (gX .i64) bQ))))) (fun x=>(x.kind,x.path,x.to,x.frm,x.size,x.data))
theorem fU:(Tryz.prog.info? 158).map (·.size)=some 6:=by kernel_rfl
theorem aMd:(Tryz.prog.info? 158).map (·.zero)=some (some (.agg #[.int .i64 0,.string ⟨#[]⟩,.string ⟨#[]⟩,.int .i64 0,.int .i64 0,.slice none 0 0])):=by kernel_rfl
theorem jS:eO Tryz.prog 158 true:=by unfold eO;kernel_rfl
theorem jU:lI Tryz.prog 158 (.agg #[.int .i64 0,.string ⟨#[]⟩,.string ⟨#[]⟩,.int .i64 0,.int .i64 0,.slice none 0 0]) #[(0,1),(1,1),(2,1),(3,1),(4,1),(5,1)]:=⟨by kernel_rfl,by kernel_rfl,fun w=>by kernel_rfl⟩
theorem pN (ad:Addr) (w:World):(Instr.fieldAt 158 (.pointer (some ad)) 0).run Tryz.prog w= .ok (.pointer (some (ad.add 0))) w:=by kernel_rfl
theorem nG (ad:Addr) (w:World):(Instr.fieldAt 158 (.pointer (some ad)) 1).run Tryz.prog w= .ok (.pointer (some (ad.add 1))) w:=by kernel_rfl
theorem aBz (ad:Addr) (w:World):(Instr.fieldAt 158 (.pointer (some ad)) 2).run Tryz.prog w= .ok (.pointer (some (ad.add 2))) w:=by kernel_rfl
theorem aBu (ad:Addr) (w:World):(Instr.fieldAt 158 (.pointer (some ad)) 3).run Tryz.prog w= .ok (.pointer (some (ad.add 3))) w:=by kernel_rfl
theorem aBc (ad:Addr) (w:World):(Instr.fieldAt 158 (.pointer (some ad)) 4).run Tryz.prog w= .ok (.pointer (some (ad.add 4))) w:=by kernel_rfl
theorem aHh (ad:Addr) (w:World):(Instr.fieldAt 158 (.pointer (some ad)) 5).run Tryz.prog w= .ok (.pointer (some (ad.add 5))) w:=by kernel_rfl
theorem rP {w:World}{F:Bs}{x:oR}{cs:List Value} (h:uJ.ro w F x cs):∃v5,cs= [.int .i64 x.kind,.string x.path,.string x.to,.int .i64 x.frm,.int .i64 x.size,v5]∧bQ.ro w F x.data [v5]∧x.path.size≤140737488351232∧x.to.size≤140737488351232:=by
  obtain⟨_,_,rfl,⟨rfl, -⟩,⟨_,_,rfl,⟨rfl,s1⟩,⟨_,_,rfl,⟨rfl,s2⟩,⟨_,_,rfl,⟨rfl, -⟩,⟨_,_,rfl,⟨rfl, -⟩,h5⟩⟩⟩⟩⟩:=h
  obtain⟨v5,rfl⟩:=lV h5
  exact⟨v5,rfl,h5,s1,s2⟩
theorem iJ {w:World}{F:Bs} (x:oR) {v5:Value} (h5:bQ.ro w F x.data [v5]) (s1:x.path.size≤140737488351232) (s2:x.to.size≤140737488351232):uJ.ro w F x [.int .i64 x.kind,.string x.path,.string x.to,.int .i64 x.frm,.int .i64 x.size,v5]:=
  ⟨_,_,rfl,⟨rfl,trivial⟩,⟨_,_,rfl,⟨rfl,s1⟩,⟨_,_,rfl,⟨rfl,s2⟩,⟨_,_,rfl,⟨rfl,trivial⟩,⟨_,_,rfl,⟨rfl,trivial⟩,h5⟩⟩⟩⟩⟩
theorem pW:(Tryz.prog.info? 190).map (·.size)=some 5:=by kernel_rfl
theorem aIl:(Tryz.prog.info? 190).map (·.zero)=some (some (.agg #[.int .i64 0,.int .i64 0,.int .i64 0,.int .i64 0,.int .i64 0])):=by kernel_rfl
theorem zE:eO Tryz.prog 190 true:=by unfold eO;kernel_rfl
theorem zS:lI Tryz.prog 190 (.agg #[.int .i64 0,.int .i64 0,.int .i64 0,.int .i64 0,.int .i64 0]) #[(0,1),(1,1),(2,1),(3,1),(4,1)]:=⟨by kernel_rfl,by kernel_rfl,fun w=>by kernel_rfl⟩
theorem aF4 (ad:Addr) (w:World):(Instr.fieldAt 190 (.pointer (some ad)) 0).run Tryz.prog w= .ok (.pointer (some (ad.add 0))) w:=by kernel_rfl
theorem aG1 (ad:Addr) (w:World):(Instr.fieldAt 190 (.pointer (some ad)) 2).run Tryz.prog w= .ok (.pointer (some (ad.add 2))) w:=by kernel_rfl
theorem aFn (ad:Addr) (w:World):(Instr.fieldAt 190 (.pointer (some ad)) 3).run Tryz.prog w= .ok (.pointer (some (ad.add 3))) w:=by kernel_rfl
theorem aGr (ad:Addr) (w:World):(Instr.fieldAt 190 (.pointer (some ad)) 4).run Tryz.prog w= .ok (.pointer (some (ad.add 4))) w:=by kernel_rfl
def aJ3 (x:aFy) (r:Value) (l:List Asn):Prop:=r= .agg #[.int .i64 x.code,.int .i64 x.inode,.int .i64 x.kind,.int .i64 x.links,.int .i64 x.size]∧l= []
theorem gE:Tryz.prog.follows .mixedOrders=true:=by kernel_rfl
end Go.Proofs.YtmejbfmhaoilmaaGreat

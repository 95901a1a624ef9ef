/- What is proved: the kinds of this program's types, laid open and put together; facts on its types. No condition. -/
import Derived.Test.YtmejbfmhaoilmaaGreatDoorProg
import Derived.Test.YtmejbfmhaoilmaaGreatDoorBase0
import Derived.Test.YtmejbfmhaoilmaaGreatDoorBase1
namespace Go.Proofs.YtmejbfmhaoilmaaGreatDoor
open Go Go.RowKit
set_option maxRecDepth 100000
set_option linter.unusedVariables false
set_option linter.unusedSimpArgs false
theorem u_2:Tryz.prog.underlying 2=some (.int .i64):=by kernel_rfl
theorem jO:(Tryz.prog.info? 2).map (·.size)=some 1:=by kernel_rfl
theorem bP:eE Tryz.prog 2 false:=by unfold eE;kernel_rfl
theorem u_3:Tryz.prog.underlying 3=some (.int .i64):=by kernel_rfl
theorem u_4:Tryz.prog.underlying 4=some .bool:=by kernel_rfl
theorem yU:(Tryz.prog.info? 4).map (·.size)=some 1:=by kernel_rfl
theorem aI6:eE Tryz.prog 4 false:=by unfold eE;kernel_rfl
theorem u_5:Tryz.prog.underlying 5=some (.int .u8):=by kernel_rfl
theorem aA9:(Tryz.prog.info? 5).map (·.size)=some 1:=by kernel_rfl
theorem aK4:eE Tryz.prog 5 false:=by unfold eE;kernel_rfl
theorem u_9:Tryz.prog.underlying 9=some .string:=by kernel_rfl
theorem mU:(Tryz.prog.info? 9).map (·.size)=some 1:=by kernel_rfl
theorem iH:eE Tryz.prog 9 false:=by unfold eE;kernel_rfl
abbrev dD:Kd (List UInt8):=bM 5 1 vP
theorem iJ:Tryz.prog.underlying 22=some (.slice 5):=by kernel_rfl
theorem oG:eE Tryz.prog 22 false:=by unfold eE;kernel_rfl
theorem nY:(Tryz.prog.info? 22).map (·.size)=some 1:=by kernel_rfl
theorem mC:(Tryz.prog.info? 5).map (fun i=>(i.size,i.bytes,i.zero))=some (vP.sz,1,some (.int .u8 0)):=by kernel_rfl
abbrev bK:Kd (List Int):=bM 2 8 (gS .i64)
theorem eF:Tryz.prog.underlying 43=some (.slice 2):=by kernel_rfl
theorem eZ:eE Tryz.prog 43 false:=by unfold eE;kernel_rfl
theorem aEz:(Tryz.prog.info? 43).map (·.size)=some 1:=by kernel_rfl
theorem gI:(Tryz.prog.info? 2).map (fun i=>(i.size,i.bytes,i.zero))=some ((gS .i64).sz,8,some (.int .i64 0)):=by kernel_rfl
def kC:Kd bO:=aGj (jE pQ (gS .i64)) (fun x=>(x.name,x.ino))
theorem fA:(Tryz.prog.info? 73).map (·.size)=some 2:=by kernel_rfl
theorem aD8:(Tryz.prog.info? 73).map (·.zero)=some (some (.agg #[.string ⟨#[]⟩,.int .i64 0])):=by kernel_rfl
theorem tG:eE Tryz.prog 73 true:=by unfold eE;kernel_rfl
theorem uJ:kB Tryz.prog 73 (.agg #[.string ⟨#[]⟩,.int .i64 0]) #[(0,1),(1,1)]:=⟨by kernel_rfl,by kernel_rfl,fun w=>by kernel_rfl⟩
theorem kM (ad:Addr) (w:World):(Instr.fieldAt 73 (.pointer (some ad)) 0).run Tryz.prog w= .ok (.pointer (some (ad.add 0))) w:=by kernel_rfl
theorem gG (ad:Addr) (w:World):(Instr.fieldAt 73 (.pointer (some ad)) 1).run Tryz.prog w= .ok (.pointer (some (ad.add 1))) w:=by kernel_rfl
theorem eY {w:World}{F:Bs}{x:bO}{cs:List Value} (h:kC.ro w F x cs):cs= [.string x.name,.int .i64 x.ino]∧x.name.size≤140737488351232:=by
  obtain⟨_,_,rfl,⟨rfl,s0⟩,⟨rfl, -⟩⟩:=h
  exact⟨rfl,s0⟩
theorem uW {w:World}{F:Bs} (x:bO) (s0:x.name.size≤140737488351232):kC.ro w F x [.string x.name,.int .i64 x.ino]:=
  ⟨_,_,rfl,⟨rfl,s0⟩,⟨rfl,trivial⟩⟩
theorem aF1 {w:World}{S:Bs}{x:bO}{cs:List Value} (h:kC.own w S x cs):cs= [.string x.name,.int .i64 x.ino]∧cI [] w S∧x.name.size≤140737488351232:=by
  obtain⟨_,_,rfl,a0⟩:=h
  obtain⟨p0,q0,b0,c0,i0,j0,k0⟩:=aC0 a0
  obtain⟨rfl,s0⟩:=b0
  obtain⟨rfl, -⟩:=c0
  exact⟨rfl,trivial,s0⟩
theorem aIe {x:bO}{cs:List Value} (w:World) (S:Bs) (h:cI [aH kC x cs] w S):∃g:Unit,(cs= [.string x.name,.int .i64 x.ino]∧x.name.size≤140737488351232)∧cI [] w S:=by
  obtain⟨h1,h2,s0⟩:=aF1 (show kC.own w S x cs from h.head (c:=aH kC x cs))
  exact⟨(),⟨h1,s0⟩,h2⟩
theorem iO {w:World}{S:Bs} (x:bO) (h:cI [] w S) (s0:x.name.size≤140737488351232):kC.own w S x [.string x.name,.int .i64 x.ino]:=by
  have m1:Mk pQ x.name [.string x.name] []:=(aLn s0)
  have m2:Mk (gS .i64) x.ino [.int .i64 x.ino] []:=aAt
  have m3:Mk (jE pQ (gS .i64)) (x.name,x.ino) ([.string x.name]++ [.int .i64 x.ino]) ([]++ []):=tZ m1 m2
  have m0:Mk kC x ([.string x.name]++ [.int .i64 x.ino]) ([]++ []):=m3
  exact m0 w S h
abbrev dU:Kd (List bO):=bM 73 24 kC
theorem dP:Tryz.prog.underlying 44=some (.slice 73):=by kernel_rfl
theorem dX:eE Tryz.prog 44 false:=by unfold eE;kernel_rfl
theorem qO:(Tryz.prog.info? 44).map (·.size)=some 1:=by kernel_rfl
theorem eI:(Tryz.prog.info? 73).map (fun i=>(i.size,i.bytes,i.zero))=some (kC.sz,24,some (.agg #[.string ⟨#[]⟩,.int .i64 0])):=by kernel_rfl
def cR:Kd aF:=aGj (jE (gS .i64) (jE (gS .i64) (jE (gS .i64) (jE bK dU)))) (fun x=>(x.kind,x.links,x.size,x.blocks,x.ents))
theorem aT:(Tryz.prog.info? 46).map (·.size)=some 5:=by kernel_rfl
theorem sX:(Tryz.prog.info? 46).map (·.zero)=some (some (.agg #[.int .i64 0,.int .i64 0,.int .i64 0,.slice none 0 0,.slice none 0 0])):=by kernel_rfl
theorem fH:eE Tryz.prog 46 true:=by unfold eE;kernel_rfl
theorem sH:kB Tryz.prog 46 (.agg #[.int .i64 0,.int .i64 0,.int .i64 0,.slice none 0 0,.slice none 0 0]) #[(0,1),(1,1),(2,1),(3,1),(4,1)]:=⟨by kernel_rfl,by kernel_rfl,fun w=>by kernel_rfl⟩
theorem bS (ad:Addr) (w:World):(Instr.fieldAt 46 (.pointer (some ad)) 0).run Tryz.prog w= .ok (.pointer (some (ad.add 0))) w:=by kernel_rfl
theorem iZ (ad:Addr) (w:World):(Instr.fieldAt 46 (.pointer (some ad)) 1).run Tryz.prog w= .ok (.pointer (some (ad.add 1))) w:=by kernel_rfl
theorem gU (ad:Addr) (w:World):(Instr.fieldAt 46 (.pointer (some ad)) 2).run Tryz.prog w= .ok (.pointer (some (ad.add 2))) w:=by kernel_rfl
theorem dH (ad:Addr) (w:World):(Instr.fieldAt 46 (.pointer (some ad)) 3).run Tryz.prog w= .ok (.pointer (some (ad.add 3))) w:=by kernel_rfl
theorem bL (ad:Addr) (w:World):(Instr.fieldAt 46 (.pointer (some ad)) 4).run Tryz.prog w= .ok (.pointer (some (ad.add 4))) w:=by kernel_rfl
theorem bY {w:World}{F:Bs}{x:aF}{cs:List Value} (h:cR.ro w F x cs):∃v3 v4,cs= [.int .i64 x.kind,.int .i64 x.links,.int .i64 x.size,v3,v4]∧bK.ro w F x.blocks [v3]∧dU.ro w F x.ents [v4]:=by
  obtain⟨_,_,rfl,⟨rfl, -⟩,⟨_,_,rfl,⟨rfl, -⟩,⟨_,_,rfl,⟨rfl, -⟩,⟨_,_,rfl,h3,h4⟩⟩⟩⟩:=h
  obtain⟨v3,rfl⟩:=lS h3
  obtain⟨v4,rfl⟩:=lS h4
  exact⟨v3,v4,rfl,h3,h4⟩
theorem iU {w:World}{F:Bs} (x:aF) {v3:Value}{v4:Value} (h3:bK.ro w F x.blocks [v3]) (h4:dU.ro w F x.ents [v4]):cR.ro w F x [.int .i64 x.kind,.int .i64 x.links,.int .i64 x.size,v3,v4]:=
  ⟨_,_,rfl,⟨rfl,trivial⟩,⟨_,_,rfl,⟨rfl,trivial⟩,⟨_,_,rfl,⟨rfl,trivial⟩,⟨_,_,rfl,h3,h4⟩⟩⟩⟩
theorem aFx {w:World}{S:Bs}{x:aF}{cs:List Value} (h:cR.own w S x cs):∃v3 v4,cs= [.int .i64 x.kind,.int .i64 x.links,.int .i64 x.size,v3,v4]∧cI [aH bK x.blocks [v3],aH dU x.ents [v4]] w S:=by
  obtain⟨_,_,rfl,a0⟩:=h
  obtain⟨p0,q0,b0,c0,i0,j0,k0⟩:=aC0 a0
  obtain⟨rfl, -⟩:=b0
  obtain⟨_,_,rfl,a1⟩:=c0
  obtain⟨p1,q1,b1,c1,i1,j1,k1⟩:=aC0 a1
  obtain⟨rfl, -⟩:=b1
  obtain⟨_,_,rfl,a2⟩:=c1
  obtain⟨p2,q2,b2,c2,i2,j2,k2⟩:=aC0 a2
  obtain⟨rfl, -⟩:=b2
  obtain⟨_,_,rfl,a3⟩:=c2
  obtain⟨p3,q3,b3,c3,i3,j3,k3⟩:=aC0 a3
  obtain⟨v3,rfl⟩:=aE5 b3
  have g4:=cI.one (c:=aH bK x.blocks [v3]) b3
  obtain⟨v4,rfl⟩:=aE5 c3
  have g5:=cI.one (c:=aH dU x.ents [v4]) c3
  have g6:=g4.app g5 i3 j3 k3
  have g7:=g6.up j2
  have g8:=g7.up j1
  have g9:=g8.up j0
  exact⟨v3,v4,rfl,g9⟩
theorem fC {x:aF}{cs:List Value} (w:World) (S:Bs) (h:cI [aH cR x cs] w S):∃g:Value×Value,cs= [.int .i64 x.kind,.int .i64 x.links,.int .i64 x.size,g.1,g.2]∧cI [aH bK x.blocks [g.1],aH dU x.ents [g.2]] w S:=by
  obtain⟨v3,v4,h1,h2⟩:=aFx (show cR.own w S x cs from h.head (c:=aH cR x cs))
  exact⟨(v3,v4),h1,h2⟩
theorem cZ {w:World}{S:Bs} (x:aF) {v3:Value}{v4:Value} (h:cI [aH bK x.blocks [v3],aH dU x.ents [v4]] w S):cR.own w S x [.int .i64 x.kind,.int .i64 x.links,.int .i64 x.size,v3,v4]:=by
  have m1:Mk (gS .i64) x.kind [.int .i64 x.kind] []:=aAt
  have m2:Mk (gS .i64) x.links [.int .i64 x.links] []:=aAt
  have m3:Mk (gS .i64) x.size [.int .i64 x.size] []:=aAt
  have m4:Mk bK x.blocks [v3] [aH bK x.blocks [v3]]:=aEw
  have m5:Mk dU x.ents [v4] [aH dU x.ents [v4]]:=aEw
  have m6:Mk (jE bK dU) (x.blocks,x.ents) ([v3]++ [v4]) ([aH bK x.blocks [v3]]++ [aH dU x.ents [v4]]):=tZ m4 m5
  have m7:Mk (jE (gS .i64) (jE bK dU)) (x.size,(x.blocks,x.ents)) ([.int .i64 x.size]++([v3]++ [v4])) ([]++([aH bK x.blocks [v3]]++ [aH dU x.ents [v4]])):=tZ m3 m6
  have m8:Mk (jE (gS .i64) (jE (gS .i64) (jE bK dU))) (x.links,(x.size,(x.blocks,x.ents))) ([.int .i64 x.links]++([.int .i64 x.size]++([v3]++ [v4]))) ([]++([]++([aH bK x.blocks [v3]]++ [aH dU x.ents [v4]]))):=tZ m2 m7
  have m9:Mk (jE (gS .i64) (jE (gS .i64) (jE (gS .i64) (jE bK dU)))) (x.kind,(x.links,(x.size,(x.blocks,x.ents)))) ([.int .i64 x.kind]++([.int .i64 x.links]++([.int .i64 x.size]++([v3]++ [v4])))) ([]++([]++([]++([aH bK x.blocks [v3]]++ [aH dU x.ents [v4]])))):=tZ m1 m8
  have m0:Mk cR x ([.int .i64 x.kind]++([.int .i64 x.links]++([.int .i64 x.size]++([v3]++ [v4])))) ([]++([]++([]++([aH bK x.blocks [v3]]++ [aH dU x.ents [v4]])))):=m9
  exact m0 w S h
def aL7 (x:aF) (r:Value) (l:List Asn):Prop:=∃v3 v4,r= .agg #[.int .i64 x.kind,.int .i64 x.links,.int .i64 x.size,v3,v4]∧l= [aH bK x.blocks [v3],aH dU x.ents [v4]]
theorem aI5 (w:World) (S:Bs):cR.own w S (⟨0,0,0,[],[]⟩:aF) [.int .i64 0,.int .i64 0,.int .i64 0,.slice none 0 0,.slice none 0 0]:=cZ (⟨0,0,0,[],[]⟩:aF) (⟨fun _=>False,fun _=>False,aL _ _ none,⟨fun _=>False,fun _=>False,aL _ _ none,trivial,fun _ h=>h.elim,fun _ h=>h.elim,fun _ h=>h.elim⟩,fun _ h=>h.elim,fun _ h=>h.elim,fun _ h=>h.elim⟩)
abbrev bJ:Kd (List aF):=bM 46 72 cR
theorem cQ:Tryz.prog.underlying 24=some (.slice 46):=by kernel_rfl
theorem bR:eE Tryz.prog 24 false:=by unfold eE;kernel_rfl
theorem aG1:(Tryz.prog.info? 24).map (·.size)=some 1:=by kernel_rfl
theorem mN:(Tryz.prog.info? 46).map (fun i=>(i.size,i.bytes,i.zero))=some (cR.sz,72,some (.agg #[.int .i64 0,.int .i64 0,.int .i64 0,.slice none 0 0,.slice none 0 0])):=by kernel_rfl
abbrev eH:Kd (List (List UInt8)):=bM 22 24 dD
theorem pH:Tryz.prog.underlying 25=some (.slice 22):=by kernel_rfl
theorem mS:eE Tryz.prog 25 false:=by unfold eE;kernel_rfl
theorem aJ6:(Tryz.prog.info? 25).map (·.size)=some 1:=by kernel_rfl
theorem aC4:(Tryz.prog.info? 22).map (fun i=>(i.size,i.bytes,i.zero))=some (dD.sz,24,some (.slice none 0 0)):=by kernel_rfl
def dV:Kd DFs:=aGj (jE bJ eH) (fun x=>(x.inodes,x.data))
theorem bA:(Tryz.prog.info? 27).map (·.size)=some 2:=by kernel_rfl
theorem rG:(Tryz.prog.info? 27).map (·.zero)=some (some (.agg #[.slice none 0 0,.slice none 0 0])):=by kernel_rfl
theorem bX:eE Tryz.prog 27 true:=by unfold eE;kernel_rfl
theorem aKj:kB Tryz.prog 27 (.agg #[.slice none 0 0,.slice none 0 0]) #[(0,1),(1,1)]:=⟨by kernel_rfl,by kernel_rfl,fun w=>by kernel_rfl⟩
theorem aP (ad:Addr) (w:World):(Instr.fieldAt 27 (.pointer (some ad)) 0).run Tryz.prog w= .ok (.pointer (some (ad.add 0))) w:=by kernel_rfl
theorem gQ (ad:Addr) (w:World):(Instr.fieldAt 27 (.pointer (some ad)) 1).run Tryz.prog w= .ok (.pointer (some (ad.add 1))) w:=by kernel_rfl
theorem bZ {w:World}{F:Bs}{x:DFs}{cs:List Value} (h:dV.ro w F x cs):∃v0 v1,cs= [v0,v1]∧bJ.ro w F x.inodes [v0]∧eH.ro w F x.data [v1]:=by
  obtain⟨_,_,rfl,h0,h1⟩:=h
  obtain⟨v0,rfl⟩:=lS h0
  obtain⟨v1,rfl⟩:=lS h1
  exact⟨v0,v1,rfl,h0,h1⟩
theorem aJ {w:World}{F:Bs} (x:DFs) {v0:Value}{v1:Value} (h0:bJ.ro w F x.inodes [v0]) (h1:eH.ro w F x.data [v1]):dV.ro w F x [v0,v1]:=
  ⟨_,_,rfl,h0,h1⟩
def aKa (x:DFs) (r:Value) (l:List Asn):Prop:=∃v0 v1,r= .agg #[v0,v1]∧l= [aH bJ x.inodes [v0],aH eH x.data [v1]]
def aHp (g e s:Nat) (post:List Value) (x:DFs) (r:Value) (l:List Asn):Prop:=∃v0 v1,r= .tuple #[]∧l= [bV g e s 1 (v0 :: v1 :: post),aH bJ x.inodes [v0],aH eH x.data [v1]]
abbrev cT:Kd (List ByteArray):=bM 9 16 pQ
theorem eQ:Tryz.prog.underlying 29=some (.slice 9):=by kernel_rfl
theorem rF:eE Tryz.prog 29 false:=by unfold eE;kernel_rfl
theorem aHq:(Tryz.prog.info? 29).map (·.size)=some 1:=by kernel_rfl
theorem jK:(Tryz.prog.info? 9).map (fun i=>(i.size,i.bytes,i.zero))=some (pQ.sz,16,some (.string ⟨#[]⟩)):=by kernel_rfl
theorem nF:(Tryz.prog.info? 31).map (·.size)=some 2:=by kernel_rfl
theorem aGd:(Tryz.prog.info? 31).map (·.zero)=some (some (.agg #[.int .i64 0,.slice none 0 0])):=by kernel_rfl
theorem yL:eE Tryz.prog 31 true:=by unfold eE;kernel_rfl
theorem zG:kB Tryz.prog 31 (.agg #[.int .i64 0,.slice none 0 0]) #[(0,1),(1,1)]:=⟨by kernel_rfl,by kernel_rfl,fun w=>by kernel_rfl⟩
theorem wM (ad:Addr) (w:World):(Instr.fieldAt 31 (.pointer (some ad)) 0).run Tryz.prog w= .ok (.pointer (some (ad.add 0))) w:=by kernel_rfl
theorem mP (ad:Addr) (w:World):(Instr.fieldAt 31 (.pointer (some ad)) 1).run Tryz.prog w= .ok (.pointer (some (ad.add 1))) w:=by kernel_rfl
def aIh (x:aDz) (r:Value) (l:List Asn):Prop:=∃v1,r= .agg #[.int .i64 x.code,v1]∧l= [aH cT x.names [v1]]
theorem kH:(Tryz.prog.info? 34).map (·.size)=some 2:=by kernel_rfl
theorem yQ:(Tryz.prog.info? 34).map (·.zero)=some (some (.agg #[.int .i64 0,.int .i64 0])):=by kernel_rfl
theorem tS:eE Tryz.prog 34 true:=by unfold eE;kernel_rfl
theorem yI:kB Tryz.prog 34 (.agg #[.int .i64 0,.int .i64 0]) #[(0,1),(1,1)]:=⟨by kernel_rfl,by kernel_rfl,fun w=>by kernel_rfl⟩
theorem aE1 (ad:Addr) (w:World):(Instr.fieldAt 34 (.pointer (some ad)) 0).run Tryz.prog w= .ok (.pointer (some (ad.add 0))) w:=by kernel_rfl
theorem uO (ad:Addr) (w:World):(Instr.fieldAt 34 (.pointer (some ad)) 1).run Tryz.prog w= .ok (.pointer (some (ad.add 1))) w:=by kernel_rfl
theorem aGb:Tryz.prog.eqGuardType Tryz.prog.depth 34=false:=by kernel_rfl
theorem aF0 (x y:aFz) (w:World):(Op.equalIn 10000 34 (.agg #[.int .i64 x.code,.int .i64 x.val]) (.agg #[.int .i64 y.code,.int .i64 y.val])).run Tryz.prog w= .ok (decide (x=y)) w:=by
  rw [run_equalIn_struct w 9999 34 _ _ (by kernel_rfl) (by kernel_rfl)]
  rw [show(Tryz.prog.fieldsOf 34).toList= [(Tryz.prog.fieldsOf 34)[0]!,(Tryz.prog.fieldsOf 34)[1]!] by kernel_rfl]
  refine((zY (a:= .int .i64 x.code) (b:= .int .i64 y.code) (by kernel_rfl) (fun w=>by kernel_rfl) (fun w=>by kernel_rfl) (fun w=>run_equalIn_int w 9998 _ .i64 .i64 x.code y.code (by kernel_rfl)) (zY (a:= .int .i64 x.val) (b:= .int .i64 y.val) (by kernel_rfl) (fun w=>by kernel_rfl) (fun w=>by kernel_rfl) (fun w=>run_equalIn_int w 9998 _ .i64 .i64 x.val y.val (by kernel_rfl)) aHt)) w).trans ?_
  congr 1;cases x;cases y;simp only [aJo,aI0,Bool.and_true,aFz.mk.injEq,Bool.decide_and]
def aHw (x:aFz) (r:Value) (l:List Asn):Prop:=r= .agg #[.int .i64 x.code,.int .i64 x.val]∧l= []
theorem zE:(Tryz.prog.info? 38).map (·.size)=some 2:=by kernel_rfl
theorem aNu:(Tryz.prog.info? 38).map (·.zero)=some (some (.agg #[.int .i64 0,.string ⟨#[]⟩])):=by kernel_rfl
theorem aH4:eE Tryz.prog 38 true:=by unfold eE;kernel_rfl
theorem aGw:kB Tryz.prog 38 (.agg #[.int .i64 0,.string ⟨#[]⟩]) #[(0,1),(1,1)]:=⟨by kernel_rfl,by kernel_rfl,fun w=>by kernel_rfl⟩
def aNc (x:aJ2) (r:Value) (l:List Asn):Prop:=r= .agg #[.int .i64 x.code,.string x.text]∧l= []∧x.text.size≤140737488351232
theorem kV:(Tryz.prog.info? 41).map (·.size)=some 5:=by kernel_rfl
theorem aGc:(Tryz.prog.info? 41).map (·.zero)=some (some (.agg #[.int .i64 0,.int .i64 0,.int .i64 0,.int .i64 0,.int .i64 0])):=by kernel_rfl
theorem uI:eE Tryz.prog 41 true:=by unfold eE;kernel_rfl
theorem wA:kB Tryz.prog 41 (.agg #[.int .i64 0,.int .i64 0,.int .i64 0,.int .i64 0,.int .i64 0]) #[(0,1),(1,1),(2,1),(3,1),(4,1)]:=⟨by kernel_rfl,by kernel_rfl,fun w=>by kernel_rfl⟩
theorem aI2 (ad:Addr) (w:World):(Instr.fieldAt 41 (.pointer (some ad)) 0).run Tryz.prog w= .ok (.pointer (some (ad.add 0))) w:=by kernel_rfl
theorem aJh (ad:Addr) (w:World):(Instr.fieldAt 41 (.pointer (some ad)) 1).run Tryz.prog w= .ok (.pointer (some (ad.add 1))) w:=by kernel_rfl
theorem aFd (ad:Addr) (w:World):(Instr.fieldAt 41 (.pointer (some ad)) 2).run Tryz.prog w= .ok (.pointer (some (ad.add 2))) w:=by kernel_rfl
theorem aJu (ad:Addr) (w:World):(Instr.fieldAt 41 (.pointer (some ad)) 3).run Tryz.prog w= .ok (.pointer (some (ad.add 3))) w:=by kernel_rfl
theorem aIy (ad:Addr) (w:World):(Instr.fieldAt 41 (.pointer (some ad)) 4).run Tryz.prog w= .ok (.pointer (some (ad.add 4))) w:=by kernel_rfl
def aHx (x:aH8) (r:Value) (l:List Asn):Prop:=r= .agg #[.int .i64 x.code,.int .i64 x.inode,.int .i64 x.kind,.int .i64 x.links,.int .i64 x.size]∧l= []
theorem aMw:kB Tryz.prog 75 (.agg #[.slice none 0 0,.int .i64 0]) #[(0,1),(1,1)]:=⟨by kernel_rfl,by kernel_rfl,fun w=>by kernel_rfl⟩
theorem aBc (ad:Addr) (w:World):(Instr.fieldAt 75 (.pointer (some ad)) 0).run Tryz.prog w= .ok (.pointer (some (ad.add 0))) w:=by kernel_rfl
theorem zZ (ad:Addr) (w:World):(Instr.fieldAt 75 (.pointer (some ad)) 1).run Tryz.prog w= .ok (.pointer (some (ad.add 1))) w:=by kernel_rfl
abbrev sG:Kd (List Bool):=bM 4 1 zL
theorem xP:Tryz.prog.underlying 88=some (.slice 4):=by kernel_rfl
theorem aJy:(Tryz.prog.info? 4).map (fun i=>(i.size,i.bytes,i.zero))=some (zL.sz,1,some (.bool false)):=by kernel_rfl
theorem cA:(Tryz.prog.info? 91).map (·.size)=some 7:=by kernel_rfl
theorem aAv:(Tryz.prog.info? 91).map (·.zero)=some (some (.agg #[.int .i64 0,.int .i64 0,.int .i64 0,.slice none 0 0,.slice none 0 0,.slice none 0 0,.slice none 0 0])):=by kernel_rfl
theorem eK:eE Tryz.prog 91 true:=by unfold eE;kernel_rfl
theorem pB:kB Tryz.prog 91 (.agg #[.int .i64 0,.int .i64 0,.int .i64 0,.slice none 0 0,.slice none 0 0,.slice none 0 0,.slice none 0 0]) #[(0,1),(1,1),(2,1),(3,1),(4,1),(5,2)]:=⟨by kernel_rfl,by kernel_rfl,fun w=>by kernel_rfl⟩
theorem aJw (ad:Addr) (w:World):(Instr.fieldAt 91 (.pointer (some ad)) 2).run Tryz.prog w= .ok (.pointer (some (ad.add 2))) w:=by kernel_rfl
def wB (x:dY) (r:Value) (l:List Asn):Prop:=∃v3 v4 v5 v6,r= .agg #[.int .i64 x.code,.int .i64 x.reply,.int .i64 x.val,v3,v4,v5,v6]∧l= [aH dD x.bytes [v3],aH cT x.names [v4],aH bJ x.fs.inodes [v5],aH eH x.fs.data [v6]]
def zJ:Kd oD:=aGj (jE (gS .i64) (jE pQ (jE pQ (jE (gS .i64) (jE (gS .i64) dD))))) (fun x=>(x.kind,x.path,x.to,x.frm,x.size,x.data))
theorem gW:(Tryz.prog.info? 95).map (·.size)=some 6:=by kernel_rfl
theorem aN3:(Tryz.prog.info? 95).map (·.zero)=some (some (.agg #[.int .i64 0,.string ⟨#[]⟩,.string ⟨#[]⟩,.int .i64 0,.int .i64 0,.slice none 0 0])):=by kernel_rfl
theorem lV:eE Tryz.prog 95 true:=by unfold eE;kernel_rfl
theorem mB:kB Tryz.prog 95 (.agg #[.int .i64 0,.string ⟨#[]⟩,.string ⟨#[]⟩,.int .i64 0,.int .i64 0,.slice none 0 0]) #[(0,1),(1,1),(2,1),(3,1),(4,1),(5,1)]:=⟨by kernel_rfl,by kernel_rfl,fun w=>by kernel_rfl⟩
theorem rR (ad:Addr) (w:World):(Instr.fieldAt 95 (.pointer (some ad)) 0).run Tryz.prog w= .ok (.pointer (some (ad.add 0))) w:=by kernel_rfl
theorem oO (ad:Addr) (w:World):(Instr.fieldAt 95 (.pointer (some ad)) 1).run Tryz.prog w= .ok (.pointer (some (ad.add 1))) w:=by kernel_rfl
theorem aFl (ad:Addr) (w:World):(Instr.fieldAt 95 (.pointer (some ad)) 2).run Tryz.prog w= .ok (.pointer (some (ad.add 2))) w:=by kernel_rfl
theorem aEa (ad:Addr) (w:World):(Instr.fieldAt 95 (.pointer (some ad)) 3).run Tryz.prog w= .ok (.pointer (some (ad.add 3))) w:=by kernel_rfl
theorem aEx (ad:Addr) (w:World):(Instr.fieldAt 95 (.pointer (some ad)) 4).run Tryz.prog w= .ok (.pointer (some (ad.add 4))) w:=by kernel_rfl
theorem aJm (ad:Addr) (w:World):(Instr.fieldAt 95 (.pointer (some ad)) 5).run Tryz.prog w= .ok (.pointer (some (ad.add 5))) w:=by kernel_rfl
theorem tV {w:World}{F:Bs}{x:oD}{cs:List Value} (h:zJ.ro w F x cs):∃v5,cs= [.int .i64 x.kind,.string x.path,.string x.to,.int .i64 x.frm,.int .i64 x.size,v5]∧dD.ro w F x.data [v5]∧x.path.size≤140737488351232∧x.to.size≤140737488351232:=by
  obtain⟨_,_,rfl,⟨rfl, -⟩,⟨_,_,rfl,⟨rfl,s1⟩,⟨_,_,rfl,⟨rfl,s2⟩,⟨_,_,rfl,⟨rfl, -⟩,⟨_,_,rfl,⟨rfl, -⟩,h5⟩⟩⟩⟩⟩:=h
  obtain⟨v5,rfl⟩:=lS h5
  exact⟨v5,rfl,h5,s1,s2⟩
theorem jI {w:World}{F:Bs} (x:oD) {v5:Value} (h5:dD.ro w F x.data [v5]) (s1:x.path.size≤140737488351232) (s2:x.to.size≤140737488351232):zJ.ro w F x [.int .i64 x.kind,.string x.path,.string x.to,.int .i64 x.frm,.int .i64 x.size,v5]:=
  ⟨_,_,rfl,⟨rfl,trivial⟩,⟨_,_,rfl,⟨rfl,s1⟩,⟨_,_,rfl,⟨rfl,s2⟩,⟨_,_,rfl,⟨rfl,trivial⟩,⟨_,_,rfl,⟨rfl,trivial⟩,h5⟩⟩⟩⟩⟩
abbrev aKw:Kd (List (List ByteArray)):=bM 29 24 cT
theorem aCl:Tryz.prog.underlying 121=some (.slice 29):=by kernel_rfl
theorem aK0:(Tryz.prog.info? 29).map (fun i=>(i.size,i.bytes,i.zero))=some (cT.sz,24,some (.slice none 0 0)):=by kernel_rfl
theorem gN:(Tryz.prog.info? 133).map (·.size)=some 3:=by kernel_rfl
theorem aEn:(Tryz.prog.info? 133).map (·.zero)=some (some (.agg #[.int .i64 0,.slice none 0 0,.slice none 0 0])):=by kernel_rfl
theorem nO:eE Tryz.prog 133 true:=by unfold eE;kernel_rfl
theorem oQ:kB Tryz.prog 133 (.agg #[.int .i64 0,.slice none 0 0,.slice none 0 0]) #[(0,1),(1,2)]:=⟨by kernel_rfl,by kernel_rfl,fun w=>by kernel_rfl⟩
theorem tB (ad:Addr) (w:World):(Instr.fieldAt 133 (.pointer (some ad)) 0).run Tryz.prog w= .ok (.pointer (some (ad.add 0))) w:=by kernel_rfl
theorem uM (ad:Addr) (w:World):(Instr.fieldAt 133 (.pointer (some ad)) 1).run Tryz.prog w= .ok (.pointer (some (ad.add 1))) w:=by kernel_rfl
def aC7 (x:RFs) (r:Value) (l:List Asn):Prop:=∃v1 v2,r= .agg #[.int .i64 x.code,v1,v2]∧l= [aH bJ x.fs.inodes [v1],aH eH x.fs.data [v2]]
theorem iE:(Tryz.prog.info? 135).map (·.size)=some 2:=by kernel_rfl
theorem aEl:(Tryz.prog.info? 135).map (·.zero)=some (some (.agg #[.int .i64 0,.slice none 0 0])):=by kernel_rfl
theorem nW:eE Tryz.prog 135 true:=by unfold eE;kernel_rfl
theorem pW:kB Tryz.prog 135 (.agg #[.int .i64 0,.slice none 0 0]) #[(0,1),(1,1)]:=⟨by kernel_rfl,by kernel_rfl,fun w=>by kernel_rfl⟩
theorem xB (ad:Addr) (w:World):(Instr.fieldAt 135 (.pointer (some ad)) 0).run Tryz.prog w= .ok (.pointer (some (ad.add 0))) w:=by kernel_rfl
theorem tN (ad:Addr) (w:World):(Instr.fieldAt 135 (.pointer (some ad)) 1).run Tryz.prog w= .ok (.pointer (some (ad.add 1))) w:=by kernel_rfl
def aIk (x:aDf) (r:Value) (l:List Asn):Prop:=∃v1,r= .agg #[.int .i64 x.code,v1]∧l= [aH dD x.bytes [v1]]
theorem nP:(Tryz.prog.info? 192).map (·.size)=some 2:=by kernel_rfl
theorem aFj:(Tryz.prog.info? 192).map (·.zero)=some (some (.agg #[.int .i64 0,.slice none 0 0])):=by kernel_rfl
theorem aBb:eE Tryz.prog 192 true:=by unfold eE;kernel_rfl
theorem aAe:kB Tryz.prog 192 (.agg #[.int .i64 0,.slice none 0 0]) #[(0,1),(1,1)]:=⟨by kernel_rfl,by kernel_rfl,fun w=>by kernel_rfl⟩
theorem aCc (ad:Addr) (w:World):(Instr.fieldAt 192 (.pointer (some ad)) 0).run Tryz.prog w= .ok (.pointer (some (ad.add 0))) w:=by kernel_rfl
theorem aG5 (ad:Addr) (w:World):(Instr.fieldAt 192 (.pointer (some ad)) 1).run Tryz.prog w= .ok (.pointer (some (ad.add 1))) w:=by kernel_rfl
def aK3 (x:qD) (r:Value) (l:List Asn):Prop:=∃v1,r= .agg #[.int .i64 x.code,v1]∧l= [aH bK x.list [v1]]
theorem fR:Tryz.prog.follows .mixedOrders=true:=by kernel_rfl
end Go.Proofs.YtmejbfmhaoilmaaGreatDoor
/- What is proved: arguments of this program's types, read out of memory, are of their kinds. No condition. -/
namespace Go.Proofs.YtmejbfmhaoilmaaGreatDoor
open Go Go.RowKit
set_option maxRecDepth 100000
set_option linter.unusedVariables false
section
variable {H:Type}{enc:TypeId×Value→H}{W:World}
theorem aNx:Ko enc Tryz.prog W 5 vP:=Ko.a u_5
theorem aMn:Ko enc Tryz.prog W 22 dD:=Ko.slice iJ (by kernel_rfl) (by kernel_rfl) aNx
end
end Go.Proofs.YtmejbfmhaoilmaaGreatDoor
/- What is proved: contracts of functions, one a function. No condition. -/
namespace Go.Proofs.YtmejbfmhaoilmaaGreatDoor
open Go Go.RowKit
set_option linter.unusedVariables false
set_option linter.unusedSimpArgs false
set_option maxHeartbeats 1000000
set_option maxRecDepth 20000
theorem yK {w0:World}{S0:Bs} (n:Int) (lo:Int) (hi:Int):
    Calls Tryz.prog 86 #[.int .i64 n,.int .i64 lo,.int .i64 hi] w0 (aI w0 S0 (fun r l=>r= .bool (decide (lo≤n∧n≤hi))∧l= [])):=by
 refine Y.enter (N:=15) Tryz.func86 rfl rfl (by simp) [(0,.int .i64 n),(1,.int .i64 lo),(2,.int .i64 hi)] (by simp) (l0:= []) trivial ?_
 refine Y.seq (Y.region (Y.ql rfl (aA rfl .c) (Y.nt (Y.seq (Y.region (Y.mv rfl .g1 (Y.mv rfl .g3 ?_)))))))
 refine Y.ql rfl (nH rfl (.t .g1) (.t .z)) (Y.mv rfl .z ?_)
 refine Y.al .z (fun g1=> ?_) (fun g1=> ?_)
 refine Y.qg rfl rfl .z rfl rfl rfl (aR rfl (.t .g5)) ?_
 refine Y.qg rfl rfl .g1 rfl rfl rfl (aR rfl (.t .g8)) ?_
 refine Y.qg rfl rfl .g2 rfl rfl rfl (aB0 rfl (.t .g1) (.t .z)) ?_
 refine Y.ql rfl (bI rfl (.t .g3) (.t .z)) (Y.er .g8 (Y.as rfl .z (Y.nt (Y.ret ?_))))
 refine Y.i (aU rfl .z) .n ?_
 exact⟨by first |(simp [*];done) |(simp;omega),rfl⟩
 refine Y.r rfl rfl .z rfl rfl (by decide) rfl ?_
 refine Y.r rfl rfl .g1 rfl rfl (by decide) rfl ?_
 refine Y.r rfl rfl .g2 rfl rfl (by decide) rfl ?_
 refine Y.ql rfl (bH rfl (.t .g3) .c) (Y.er .g8 (Y.as rfl .z (Y.nt (Y.ret ?_))))
 refine Y.i (aU rfl .z) .n ?_
 exact⟨by first |(simp [*];done) |(simp;omega),rfl⟩

theorem aBe {w0:World}{S0:Bs} (n:Int) (lo:Int) (hi:Int):
    Calls Tryz.prog 48 #[.int .i64 n,.int .i64 lo,.int .i64 hi] w0 (aI w0 S0 (fun r l=>r= .bool (decide (lo≤n∧n≤hi))∧l= [])):=by
 refine Y.enter (N:=15) Tryz.func48 rfl rfl (by simp) [(0,.int .i64 n),(1,.int .i64 lo),(2,.int .i64 hi)] (by simp) (l0:= []) trivial ?_
 refine Y.seq (Y.region (Y.ql rfl (aA rfl .c) (Y.nt (Y.seq (Y.region (Y.mv rfl .g1 (Y.mv rfl .g3 ?_)))))))
 refine Y.ql rfl (nH rfl (.t .g1) (.t .z)) (Y.mv rfl .z ?_)
 refine Y.al .z (fun g1=> ?_) (fun g1=> ?_)
 refine Y.qg rfl rfl .z rfl rfl rfl (aR rfl (.t .g5)) ?_
 refine Y.qg rfl rfl .g1 rfl rfl rfl (aR rfl (.t .g8)) ?_
 refine Y.qg rfl rfl .g2 rfl rfl rfl (aB0 rfl (.t .g1) (.t .z)) ?_
 refine Y.ql rfl (bI rfl (.t .g3) (.t .z)) (Y.er .g8 (Y.as rfl .z (Y.nt (Y.ret ?_))))
 refine Y.i (aU rfl .z) .n ?_
 exact⟨by first |(simp [*];done) |(simp;omega),rfl⟩
 refine Y.r rfl rfl .z rfl rfl (by decide) rfl ?_
 refine Y.r rfl rfl .g1 rfl rfl (by decide) rfl ?_
 refine Y.r rfl rfl .g2 rfl rfl (by decide) rfl ?_
 refine Y.ql rfl (bH rfl (.t .g3) .c) (Y.er .g8 (Y.as rfl .z (Y.nt (Y.ret ?_))))
 refine Y.i (aU rfl .z) .n ?_
 exact⟨by first |(simp [*];done) |(simp;omega),rfl⟩

theorem aL6 {w0:World}{S0:Bs}{xs:(List Int)}{v0:Value} (h0:bK.ro w0 (FF w0 S0) xs [v0]) {f:FuncId}{us:Array Value}{fn:Func} (hfn:Tryz.prog.funcs[f]? =some fn) (hbody:fn.body.isSome=true) (hname:(fn.name == "runtime.NumGoroutine")=false) {p:Int→Bool} (hf:∀w1 S1,(∀b,FF w0 S0 b→FF w1 S1 b∧w1.heap[b]? =w0.heap[b]?)→∀x:Int,Calls Tryz.prog f (#[.int .i64 x]++us) w1 (aI w1 S1 (fun r l=>r= .bool (p x)∧l= []))):
    Calls Tryz.prog 184 #[v0,.func (.func f) #[] us] w0 (aI w0 S0 (fun r l=>r= .int .i64 (eX p xs)∧l= [])):=by
 obtain⟨A0,c0,rfl,ai,aj,ak,ag⟩:=aD h0
 refine Y.enter (N:=19) Tryz.func184 rfl rfl (by simp) [(0,.slice A0 xs.length c0),(1,.func (.func f) #[] us)] (by simp) (l0:= []) trivial ?_
 refine Y.seq (Y.region (Y.ql rfl (aA rfl .c) (Y.nt (Y.seq (Y.seq (Y.region (Y.mv rfl .g1 ?_)))))))
 refine Y.ql rfl (bD rfl eF (.t .z)) (Y.ql rfl (aR rfl .c) (Y.nt (Y.block ?_)))
 refine Y.ai (γ:=Nat) (fun k=> [(8,.int .i64 (k:Int)),(7,.int .i64 (xs.length:Int)),(0,.slice A0 xs.length c0),(1,.func (.func f) #[] us)]) (fun k=> []) (fun k=>k≤xs.length∧∀j x,j<k→xs[j]? =some x→p x=false) (fun k=>xs.length - k) 0 ⟨Nat.zero_le _,eN (q:=fun _ x=>p x=false)⟩ (.c .z (.c .g1 (.c .g4 (.c .g5 .n)))) (fun _ h=>h) ?_
 rintro k ⟨hk,hallk⟩
 refine Y.seq (Y.region (Y.ql rfl (dA rfl (.t .z) (.t .g1)) (Y.nt (Y.seq ?_))))
 refine Y.u (.t .z) (fun b2=> ?_) (fun b2=> ?_)
 refine Y.skip (Y.g (Y.seq (Y.block (Y.seq (Y.region (Y.mv rfl .g1 (Y.as rfl .z (Y.nil ?_))))))))
 refine Y.g (Y.seq (Y.region (Y.mv rfl .g6 (Y.mv rfl .g6 (Y.mv rfl .g2 ?_)))))
 obtain⟨al,aa,ab⟩:=ag (by omega)
 subst aa
 obtain⟨x4,af⟩:=aK (xs:=xs) (j:=k) (by omega)
 obtain⟨ah,ac,ad,ae⟩:=ab.elem af
 obtain⟨rfl,am⟩:=ac
 refine Y.ql rfl (aB (j:=k) rfl eF jO (.t .g1) (.t .z) rfl (by omega)) ?_
 refine Y.ql rfl (aM rfl bP (.t .z) (WS.i ad ae rfl)) ?_
 refine Y.call (aE rfl) rfl (by decide) rfl (aEi rfl (.t .g4) hfn hbody hname (bG (.t .z))) .n (fun w1 S1 hs tr=>hf w1 S1 (fun b hb=>tr.wide b hb) x4) ?_
 rintro _ _ ⟨rfl,rfl⟩
 refine Y.m .n ?_
 refine Y.nt ?_
 refine Y.cond (.t .z) (fun b6=> ?_) (fun b6=> ?_)
 refine Y.seq (Y.region (Y.mv rfl .g6 (Y.as rfl .z (Y.nt (Y.ret (Y.v (Y.j ?_)))))))
 refine Y.j (Y.v (Y.j ?_))
 refine Y.i (aU rfl .z) .n ?_
 exact⟨by rw [rV (by assumption) (by assumption) hallk],rfl⟩
 refine Y.skip (Y.ab (Y.g (Y.region ?_)))
 refine Y.ql rfl (bN (c:=((k+1:Nat):Int)) rfl (.t .g9) .c (wr (by omega) (by omega) (by omega))) ?_
 refine Y.er .g10 (Y.mv rfl .z (Y.nil ?_))
 refine Y.ae (k+1) ⟨by omega,dS (q:=fun _ x=>p x=false) hallk af b6⟩ (by first | omega |(dsimp only;omega)) (.c .z (.c .g11 (.c .g12 (.c .g13 .n)))) (fun _ h=>h)
 refine Y.exit (Y.y (Y.y (Y.ag (Y.g (Y.seq (Y.region (Y.ql rfl (aA rfl .c) (Y.nil ?_))))))))
 refine Y.g (Y.ret ?_)
 refine Y.i (aU rfl .z) .n ?_
 exact⟨by rw [rT (fun j x hx=>hallk j x (by have:=(List.getElem?_eq_some_iff.1 hx).1;omega) hx)],rfl⟩

theorem sK {w0:World}{S0:Bs}{xs:(List Int)}{v0:Value} (h0:bK.ro w0 (FF w0 S0) xs [v0]) {f:FuncId}{us:Array Value}{fn:Func} (hfn:Tryz.prog.funcs[f]? =some fn) (hbody:fn.body.isSome=true) (hname:(fn.name == "runtime.NumGoroutine")=false) {p:Int→Bool} (hf:∀w1 S1,(∀b,FF w0 S0 b→FF w1 S1 b∧w1.heap[b]? =w0.heap[b]?)→∀x:Int,Calls Tryz.prog f (#[.int .i64 x]++us) w1 (aI w1 S1 (fun r l=>r= .bool (p x)∧l= []))):
    Calls Tryz.prog 170 #[v0,.func (.func f) #[] us] w0 (aI w0 S0 (fun r l=>r= .bool (xs.any p)∧l= [])):=by
 obtain⟨A0,c0,rfl,hl0,hm0,hb0,he0⟩:=aD h0
 refine Y.enter (N:=9) Tryz.func170 rfl rfl (by simp) [(0,.slice A0 xs.length c0),(1,.func (.func f) #[] us)] (by simp) (l0:= []) trivial ?_
 refine Y.seq (Y.region (Y.ql rfl (aA rfl .c) (Y.nt (Y.seq (Y.region (Y.mv rfl .g1 (Y.mv rfl .g3 ?_)))))))
 refine Y.cl rfl rfl Tryz.func184 rfl rfl (aS (.t .g1) (.t .z)) .n (fun _ _ hs tr=>aL6 (tr.ctx h0) hfn hbody hname (fun w2 S2 h2 x=>hf w2 S2 (fun b hb=>⟨(h2 b (tr.wide b hb).1).1,(h2 b (tr.wide b hb).1).2.trans (tr.wide b hb).2⟩) x)) ?_
 rintro _ _ ⟨rfl,rfl⟩
 refine Y.m .n ?_
 refine Y.ql rfl (nH rfl (.t .z) .c) (Y.er .g4 (Y.as rfl .z (Y.nt (Y.ret ?_))))
 refine Y.i (aU rfl .z) .n ?_
 exact⟨by rw [xS],rfl⟩

theorem aN1 {w0:World}{S0:Bs}{xs:(List Int)}{v0:Value} (h0:bK.ro w0 (FF w0 S0) xs [v0]) (v:Int):
    Calls Tryz.prog 50 #[v0,.int .i64 v] w0 (aI w0 S0 (fun r l=>r= .int .i64 (eX (fun x=>decide (x=v)) xs)∧l= [])):=by
 obtain⟨A0,c0,rfl,ai,aj,ak,ag⟩:=aD h0
 refine Y.enter (N:=19) Tryz.func50 rfl rfl (by simp) [(0,.slice A0 xs.length c0),(1,.int .i64 v)] (by simp) (l0:= []) trivial ?_
 refine Y.seq (Y.region (Y.ql rfl (aA rfl .c) (Y.nt (Y.seq (Y.seq (Y.region (Y.mv rfl .g1 ?_)))))))
 refine Y.ql rfl (bD rfl eF (.t .z)) (Y.ql rfl (aR rfl .c) (Y.nt (Y.block ?_)))
 refine Y.ai (γ:=Nat) (fun k=> [(8,.int .i64 (k:Int)),(7,.int .i64 (xs.length:Int)),(0,.slice A0 xs.length c0),(1,.int .i64 v)]) (fun k=> []) (fun k=>k≤xs.length∧∀j x,j<k→xs[j]? =some x→(fun x=>decide (x=v)) x=false) (fun k=>xs.length - k) 0 ⟨Nat.zero_le _,eN (q:=fun _ x=>(fun x=>decide (x=v)) x=false)⟩ (.c .z (.c .g1 (.c .g4 (.c .g5 .n)))) (fun _ h=>h) ?_
 rintro k ⟨hk,hallk⟩
 refine Y.seq (Y.region (Y.ql rfl (dA rfl (.t .z) (.t .g1)) (Y.nt (Y.seq ?_))))
 refine Y.u (.t .z) (fun b2=> ?_) (fun b2=> ?_)
 refine Y.skip (Y.g (Y.seq (Y.block (Y.seq (Y.region (Y.mv rfl .g1 (Y.as rfl .z (Y.nil ?_))))))))
 refine Y.g (Y.seq (Y.region (Y.mv rfl .g6 (Y.mv rfl .g6 (Y.mv rfl .g2 ?_)))))
 obtain⟨al,aa,ab⟩:=ag (by omega)
 subst aa
 obtain⟨x4,ac⟩:=aK (xs:=xs) (j:=k) (by omega)
 obtain⟨ah,ad,ae,af⟩:=ab.elem ac
 obtain⟨rfl,am⟩:=ad
 refine Y.ql rfl (aB (j:=k) rfl eF jO (.t .g1) (.t .z) rfl (by omega)) ?_
 refine Y.ql rfl (aM rfl bP (.t .z) (WS.i ae af rfl)) (Y.ql rfl (bU rfl (.t .g4) (.t .z)) (Y.nt ?_))
 refine Y.u (.t .z) (fun b6=> ?_) (fun b6=> ?_)
 refine Y.seq (Y.region (Y.mv rfl .g6 (Y.as rfl .z (Y.nt (Y.ret (Y.v (Y.j ?_)))))))
 refine Y.j (Y.v (Y.j ?_))
 refine Y.i (aU rfl .z) .n ?_
 exact⟨by rw [rV ac (decide_eq_true (by omega)) hallk],rfl⟩
 refine Y.skip (Y.ab (Y.g (Y.region ?_)))
 refine Y.ql rfl (bN (c:=((k+1:Nat):Int)) rfl (.t .g9) .c (wr (by omega) (by omega) (by omega))) ?_
 refine Y.er .g10 (Y.mv rfl .z (Y.nil ?_))
 refine Y.ae (k+1) ⟨by omega,dS (q:=fun _ x=>(fun x=>decide (x=v)) x=false) hallk ac (decide_eq_false (by omega))⟩ (by first | omega |(dsimp only;omega)) (.c .z (.c .g11 (.c .g12 (.c .g13 .n)))) (fun _ h=>h)
 refine Y.exit (Y.y (Y.y (Y.ag (Y.g (Y.seq (Y.region (Y.ql rfl (aA rfl .c) (Y.nil ?_))))))))
 refine Y.g (Y.ret ?_)
 refine Y.i (aU rfl .z) .n ?_
 exact⟨by rw [rT (fun j x hx=>hallk j x (by have:=(List.getElem?_eq_some_iff.1 hx).1;omega) hx)],rfl⟩

theorem aDw {w0:World}{S0:Bs}{xs:(List Int)}{v0:Value} (h0:bK.ro w0 (FF w0 S0) xs [v0]) (v:Int):
    Calls Tryz.prog 27 #[v0,.int .i64 v] w0 (aI w0 S0 (fun r l=>r= .bool (decide (v∈xs))∧l= [])):=by
 obtain⟨A0,c0,rfl,hl0,hm0,hb0,he0⟩:=aD h0
 refine Y.enter (N:=9) Tryz.func27 rfl rfl (by simp) [(0,.slice A0 xs.length c0),(1,.int .i64 v)] (by simp) (l0:= []) trivial ?_
 refine Y.seq (Y.region (Y.ql rfl (aA rfl .c) (Y.nt (Y.seq (Y.region (Y.mv rfl .g1 (Y.mv rfl .g3 ?_)))))))
 refine Y.cl rfl rfl Tryz.func50 rfl rfl (aS (.t .g1) (.t .z)) .n (fun _ _ hs tr=>aN1 (tr.ctx h0) _) ?_
 rintro _ _ ⟨rfl,rfl⟩
 refine Y.m .n ?_
 refine Y.ql rfl (nH rfl (.t .z) .c) (Y.er .g4 (Y.as rfl .z (Y.nt (Y.ret ?_))))
 refine Y.i (aU rfl .z) .n ?_
 exact⟨by rw [xS,aJx],rfl⟩

theorem aIf {w0:World}{S0:Bs} (n:Int):
    Calls Tryz.prog 118 #[.int .i64 n] w0 (aI w0 S0 (fun r l=>r= .bool (decide (0≤n∧n≤32))∧l= [])):=by
 refine Y.enter (N:=5) Tryz.func118 rfl rfl (by simp) [(0,.int .i64 n)] (by simp) (l0:= []) trivial ?_
 refine Y.seq (Y.region (Y.ql rfl (aA rfl .c) (Y.nt (Y.seq (Y.region (Y.mv rfl .g1 ?_))))))
 refine Y.cl rfl rfl Tryz.func86 rfl rfl (eL (.t .z) .c .c) .n (fun _ _ hs tr=>yK _ _ _) ?_
 rintro _ _ ⟨rfl,rfl⟩
 refine Y.m .n ?_
 refine Y.er .g2 (Y.as rfl .z (Y.nt (Y.ret ?_)))
 refine Y.i (aU rfl .z) .n ?_
 exact⟨rfl,rfl⟩

theorem aIw {w0:World}{S0:Bs} (n:Int) (hn0:0≤n) (hn1:n≤1073741824):
    Calls Tryz.prog 59 #[.int .i64 n] w0 (aI w0 S0 (fun r l=>r= .int .i64 ((n+7) / 8)∧l= [])):=by
 refine Y.enter (N:=7) Tryz.func59 rfl rfl (by simp) [(0,.int .i64 n)] (by simp) (l0:= []) trivial ?_
 refine Y.seq (Y.region (Y.ql rfl (aA rfl .c) (Y.nt (Y.seq (Y.region (Y.mv rfl .g1 ?_))))))
 refine Y.ql rfl (bN (c:=n+8) rfl (.t .z) .c (wr (by omega) (by omega) (by omega))) ?_
 refine Y.ql rfl (iT (c:=(n+8) - 1) rfl (.t .z) .c (wr (by omega) (by omega) (by omega))) ?_
 refine Y.ql rfl (aGp (c:=((n+8) - 1) / 8) rfl (.t .z) .c (by omega) (aDt (by omega) (by omega) (by omega))) ?_
 refine Y.er .g4 (Y.as rfl .z (Y.nt (Y.ret ?_)))
 refine Y.i (aU rfl .z) .n ?_
 exact⟨congrArg (Value.int .i64) (by omega),rfl⟩

theorem sI {w0:World}{S0:Bs} (n:Int) (hn0:0≤n) (hn1:n≤1073741824):
    Calls Tryz.prog 169 #[.int .i64 n] w0 (aI w0 S0 (fun r l=>r= .int .i64 ((n+7) / 8)∧l= [])):=by
 refine Y.enter (N:=7) Tryz.func169 rfl rfl (by simp) [(0,.int .i64 n)] (by simp) (l0:= []) trivial ?_
 refine Y.seq (Y.region (Y.ql rfl (aA rfl .c) (Y.nt (Y.seq (Y.region (Y.mv rfl .g1 ?_))))))
 refine Y.ql rfl (bN (c:=n+8) rfl (.t .z) .c (wr (by omega) (by omega) (by omega))) ?_
 refine Y.ql rfl (iT (c:=(n+8) - 1) rfl (.t .z) .c (wr (by omega) (by omega) (by omega))) ?_
 refine Y.ql rfl (aGp (c:=((n+8) - 1) / 8) rfl (.t .z) .c (by omega) (aDt (by omega) (by omega) (by omega))) ?_
 refine Y.er .g4 (Y.as rfl .z (Y.nt (Y.ret ?_)))
 refine Y.i (aU rfl .z) .n ?_
 exact⟨congrArg (Value.int .i64) (by omega),rfl⟩

theorem sF {w0:World}{S0:Bs} (n:Int):
    Calls Tryz.prog 171 #[.int .i64 n] w0 (aI w0 S0 (fun r l=>r= .bool (!decide (0≤n∧n≤19))∧l= [])):=by
 refine Y.enter (N:=6) Tryz.func171 rfl rfl (by simp) [(0,.int .i64 n)] (by simp) (l0:= []) trivial ?_
 refine Y.seq (Y.region (Y.ql rfl (aA rfl .c) (Y.nt (Y.seq (Y.region (Y.mv rfl .g1 ?_))))))
 refine Y.cl rfl rfl Tryz.func48 rfl rfl (eL (.t .z) .c .c) .n (fun _ _ hs tr=>aBe _ _ _) ?_
 rintro _ _ ⟨rfl,rfl⟩
 refine Y.m .n ?_
 refine Y.ql rfl (fF rfl (.t .z)) (Y.er .g3 (Y.as rfl .z (Y.nt (Y.ret ?_))))
 refine Y.i (aU rfl .z) .n ?_
 exact⟨rfl,rfl⟩

theorem sC {w0:World}{S0:Bs}{xs:(List Int)}{v0:Value} (h0:bK.ro w0 (FF w0 S0) xs [v0]):
    Calls Tryz.prog 168 #[v0] w0 (aI w0 S0 (fun r l=>r= .int .i64 xs.length∧l= [])):=by
 obtain⟨A0,c0,rfl,hl0,hm0,hb0,he0⟩:=aD h0
 refine Y.enter (N:=5) Tryz.func168 rfl rfl (by simp) [(0,.slice A0 xs.length c0)] (by simp) (l0:= []) trivial ?_
 refine Y.seq (Y.region (Y.ql rfl (aA rfl .c) (Y.nt (Y.seq (Y.region (Y.mv rfl .g1 (Y.ql rfl (bD rfl eF (.t .z)) ?_)))))))
 refine Y.er .g2 (Y.as rfl .z (Y.nt (Y.ret ?_)))
 refine Y.i (aU rfl .z) .n ?_
 exact⟨rfl,rfl⟩

theorem aLr {w0:World}{S0:Bs}{xs:(List aF)}{v0:Value} (h0:bJ.ro w0 (FF w0 S0) xs [v0]):
    Calls Tryz.prog 49 #[v0] w0 (aI w0 S0 (fun r l=>r= .int .i64 xs.length∧l= [])):=by
 obtain⟨A0,c0,rfl,hl0,hm0,hb0,he0⟩:=aD h0
 refine Y.enter (N:=5) Tryz.func49 rfl rfl (by simp) [(0,.slice A0 xs.length c0)] (by simp) (l0:= []) trivial ?_
 refine Y.seq (Y.region (Y.ql rfl (aA rfl .c) (Y.nt (Y.seq (Y.region (Y.mv rfl .g1 (Y.ql rfl (bD rfl cQ (.t .z)) ?_)))))))
 refine Y.er .g2 (Y.as rfl .z (Y.nt (Y.ret ?_)))
 refine Y.i (aU rfl .z) .n ?_
 exact⟨rfl,rfl⟩

theorem aOl {w0:World}{S0:Bs}{xs:(List bO)}{v0:Value} (h0:dU.ro w0 (FF w0 S0) xs [v0]):
    Calls Tryz.prog 47 #[v0] w0 (aI w0 S0 (fun r l=>r= .int .i64 xs.length∧l= [])):=by
 obtain⟨A0,c0,rfl,hl0,hm0,hb0,he0⟩:=aD h0
 refine Y.enter (N:=5) Tryz.func47 rfl rfl (by simp) [(0,.slice A0 xs.length c0)] (by simp) (l0:= []) trivial ?_
 refine Y.seq (Y.region (Y.ql rfl (aA rfl .c) (Y.nt (Y.seq (Y.region (Y.mv rfl .g1 (Y.ql rfl (bD rfl dP (.t .z)) ?_)))))))
 refine Y.er .g2 (Y.as rfl .z (Y.nt (Y.ret ?_)))
 refine Y.i (aU rfl .z) .n ?_
 exact⟨rfl,rfl⟩

theorem aLp {w0:World}{S0:Bs} (s:ByteArray) (ab:s.size≤140737488351232):
    Calls Tryz.prog 43 #[.string s] w0 (aI w0 S0 (fun r l=>r= .int .i64 (aV s)∧l= [])):=by
 refine Y.enter (N:=25) Tryz.func43 rfl rfl (by simp) [(0,.string s)] (by simp) (l0:= []) trivial ?_
 refine Y.seq (Y.region (Y.ql rfl (aA rfl .c) (Y.nt (Y.seq (Y.seq (Y.region (Y.mv rfl .g1 ?_)))))))
 refine Y.ql rfl (sU rfl (.t .z) .c) (Y.nt ?_)
 refine Y.u (.t .z) (fun b1=> ?_) (fun b1=> ?_)
 refine Y.seq (Y.region (Y.er .g2 (Y.ql rfl (aA rfl .c) (Y.nt (Y.ret (Y.j ?_))))))
 refine Y.i (aU rfl .z) .n ?_
 exact⟨by first |(rw [hJ (by assumption)];done) |(rw [iC (fun j b hj hb=>hallk j b (by omega) hb) (by assumption) (by assumption)];done) |(rw [hY (fun j b hj hb=>hallk j b (by omega) hb) (by assumption) (by assumption)];done),rfl⟩
 refine Y.skip (Y.g (Y.seq (Y.seq (Y.region (Y.mv rfl .g3 (Y.ql rfl (lZ rfl u_9 (.t .z)) (Y.ql rfl (aR rfl .c) (Y.nil ?_))))))))
 refine Y.g (Y.block ?_)
 refine Y.ai (γ:=Nat) (fun k=> [(8,.int .i64 (k:Int)),(7,.int .i64 (s.size:Int)),(0,.string s)]) (fun k=> []) (fun k=>k≤s.size∧∀j b,j<k→s.data.toList[j]? =some b→wE b) (fun k=>s.size - k) 0 ⟨Nat.zero_le _,eN (q:=fun _ b=>wE b)⟩ (.c .z (.c .g1 (.c .g6 .n))) (fun _ h=>h) ?_
 rintro k ⟨hk,hallk⟩
 refine Y.seq (Y.region (Y.ql rfl (dA rfl (.t .z) (.t .g1)) (Y.nt (Y.seq ?_))))
 refine Y.u (.t .z) (fun b2=> ?_) (fun b2=> ?_)
 refine Y.skip (Y.g (Y.seq (Y.block (Y.seq (Y.region (Y.mv rfl .g1 (Y.as rfl .z (Y.nil ?_))))))))
 refine Y.g (Y.seq (Y.region (Y.mv rfl .g5 (Y.mv rfl .g1 ?_))))
 obtain⟨b3,aa⟩:=aK (xs:=s.data.toList) (j:=k) (by have:=iG s;omega)
 refine Y.ql rfl (mI rfl u_9 (.t .g1) (.t .z) rfl aa) (Y.ql rfl (dA rfl (.t .z) .c) (Y.mv rfl .z ?_))
 refine Y.al .z (fun g4=> ?_) (fun g4=> ?_)
 refine Y.r rfl rfl .z rfl rfl (by decide) rfl ?_
 refine Y.r rfl rfl .g1 rfl rfl (by decide) rfl ?_
 refine Y.r rfl rfl .g2 rfl rfl (by decide) rfl ?_
 refine Y.r rfl rfl .g3 rfl rfl (by decide) rfl ?_
 refine Y.ql rfl (bI rfl (.t .g4) .c) (Y.nt ?_)
 refine Y.aq (.t .z) ?_
 refine Y.seq (Y.region (Y.ql rfl (aA rfl .c) (Y.nt (Y.ret (Y.v (Y.j (Y.j ?_)))))))
 refine Y.v (Y.j ?_)
 refine Y.i (aU rfl .z) .n ?_
 exact⟨by first |(rw [hJ (by assumption)];done) |(rw [oF aa (fun h=>by have:=h.1;have:=h.2;omega)];done) |(rw [iC (fun j b hj hb=>hallk j b (by omega) hb) (by assumption) (by assumption)];done) |(rw [hY (fun j b hj hb=>hallk j b (by omega) hb) (by assumption) (by assumption)];done),rfl⟩
 refine Y.qg rfl rfl .z rfl rfl rfl (aR rfl (.t .g10)) ?_
 refine Y.qg rfl rfl .g1 rfl rfl rfl (aR rfl (.t .g6)) ?_
 refine Y.qg rfl rfl .g2 rfl rfl rfl (mI rfl u_9 (.t .g1) (.t .z) rfl aa) ?_
 refine Y.qg rfl rfl .g3 rfl rfl rfl (fI rfl (.t .z) .c) ?_
 refine Y.ql rfl (bH rfl (.t .g4) (.t .z)) (Y.nt ?_)
 refine Y.u (.t .z) (fun b5=> ?_) (fun b5=> ?_)
 refine Y.seq (Y.region (Y.ql rfl (aA rfl .c) (Y.nt (Y.ret (Y.v (Y.j (Y.j ?_)))))))
 refine Y.v (Y.j ?_)
 refine Y.i (aU rfl .z) .n ?_
 exact⟨by first |(rw [hJ (by assumption)];done) |(rw [oF aa (fun h=>by have:=h.1;have:=h.2;omega)];done) |(rw [iC (fun j b hj hb=>hallk j b (by omega) hb) (by assumption) (by assumption)];done) |(rw [hY (fun j b hj hb=>hallk j b (by omega) hb) (by assumption) (by assumption)];done),rfl⟩
 refine Y.skip (Y.ab (Y.g (Y.region ?_)))
 refine Y.ql rfl (bN (c:=((k+1:Nat):Int)) rfl (.t .g13) .c (wr (by omega) (by omega) (by omega))) ?_
 refine Y.er .g14 (Y.mv rfl .z (Y.nil ?_))
 refine Y.ae (k+1) ⟨by omega,dS (q:=fun _ b=>wE b) hallk aa ⟨by omega,by omega⟩⟩ (by first | omega |(dsimp only;omega)) (.c .z (.c .g15 (.c .g16 .n))) (fun _ h=>h)
 refine Y.exit (Y.y (Y.y (Y.ag (Y.g (Y.seq (Y.seq (Y.region (Y.mv rfl .g3 ?_))))))))
 refine Y.ql rfl (lZ rfl u_9 (.t .z)) (Y.ql rfl (fI rfl (.t .z) .c) (Y.nt ?_))
 refine Y.u (.t .z) (fun b6=> ?_) (fun b6=> ?_)
 refine Y.seq (Y.region (Y.ql rfl (aA rfl .c) (Y.nt (Y.ret (Y.j ?_)))))
 refine Y.i (aU rfl .z) .n ?_
 exact⟨by first |(rw [hJ (by assumption)];done) |(rw [iC (fun j b hj hb=>hallk j b (by omega) hb) (by assumption) (by assumption)];done) |(rw [hY (fun j b hj hb=>hallk j b (by omega) hb) (by assumption) (by assumption)];done),rfl⟩
 refine Y.skip (Y.g (Y.seq (Y.region (Y.ql rfl (aA rfl .c) (Y.nt (Y.ret ?_))))))
 refine Y.i (aU rfl .z) .n ?_
 exact⟨by first |(rw [hJ (by assumption)];done) |(rw [iC (fun j b hj hb=>hallk j b (by omega) hb) (by assumption) (by assumption)];done) |(rw [hY (fun j b hj hb=>hallk j b (by omega) hb) (by assumption) (by assumption)];done),rfl⟩

theorem aKb {w0:World}{S0:Bs} (s:ByteArray) (ab:s.size≤140737488351232):
    Calls Tryz.prog 119 #[.string s] w0 (aI w0 S0 (fun r l=>r= .int .i64 (aV s)∧l= [])):=by
 refine Y.enter (N:=25) Tryz.func119 rfl rfl (by simp) [(0,.string s)] (by simp) (l0:= []) trivial ?_
 refine Y.seq (Y.region (Y.ql rfl (aA rfl .c) (Y.nt (Y.seq (Y.seq (Y.region (Y.ql rfl (aA rfl .c) ?_)))))))
 refine Y.nt (Y.block ?_)
 refine Y.ai (γ:=Nat) (fun k=> [(3,.int .i64 (k:Int)),(0,.string s)]) (fun k=> []) (fun k=>k≤s.size∧∀j b,j<k→s.data.toList[j]? =some b→wE b) (fun k=>s.size - k) 0 ⟨Nat.zero_le _,eN (q:=fun _ b=>wE b)⟩ (.c .z (.c .g2 .n)) (fun _ h=>h) ?_
 rintro k ⟨hk,hallk⟩
 refine Y.seq (Y.seq (Y.region (Y.mv rfl .z (Y.mv rfl .g2 (Y.ql rfl (lZ rfl u_9 (.t .z)) (Y.ql rfl (dA rfl (.t .g2) (.t .z)) (Y.nt ?_)))))))
 refine Y.u (.t .z) (fun b1=> ?_) (fun b1=> ?_)
 refine Y.skip (Y.g (Y.seq (Y.block (Y.seq (Y.region (Y.mv rfl .g5 (Y.mv rfl .g5 ?_)))))))
 obtain⟨b2,aa⟩:=aK (xs:=s.data.toList) (j:=k) (by have:=iG s;omega)
 refine Y.ql rfl (mI rfl u_9 (.t .g1) (.t .z) rfl aa) (Y.ql rfl (dA rfl (.t .z) .c) (Y.mv rfl .z ?_))
 refine Y.al .z (fun g3=> ?_) (fun g3=> ?_)
 refine Y.r rfl rfl .z rfl rfl (by decide) rfl ?_
 refine Y.r rfl rfl .g1 rfl rfl (by decide) rfl ?_
 refine Y.r rfl rfl .g2 rfl rfl (by decide) rfl ?_
 refine Y.r rfl rfl .g3 rfl rfl (by decide) rfl ?_
 refine Y.ql rfl (bI rfl (.t .g4) .c) (Y.nt ?_)
 refine Y.aq (.t .z) ?_
 refine Y.seq (Y.region (Y.ql rfl (aA rfl .c) (Y.nt (Y.ret (Y.v (Y.j (Y.j ?_)))))))
 refine Y.v (Y.j ?_)
 refine Y.i (aU rfl .z) .n ?_
 exact⟨by first |(rw [hJ (by assumption)];done) |(rw [oF aa (fun h=>by have:=h.1;have:=h.2;omega)];done) |(rw [iC (fun j b hj hb=>hallk j b (by omega) hb) (by assumption) (by assumption)];done) |(rw [hY (fun j b hj hb=>hallk j b (by omega) hb) (by assumption) (by assumption)];done),rfl⟩
 refine Y.qg rfl rfl .z rfl rfl rfl (aR rfl (.t .g10)) ?_
 refine Y.qg rfl rfl .g1 rfl rfl rfl (aR rfl (.t .g10)) ?_
 refine Y.qg rfl rfl .g2 rfl rfl rfl (mI rfl u_9 (.t .g1) (.t .z) rfl aa) ?_
 refine Y.qg rfl rfl .g3 rfl rfl rfl (fI rfl (.t .z) .c) ?_
 refine Y.ql rfl (bH rfl (.t .g4) (.t .z)) (Y.nt ?_)
 refine Y.u (.t .z) (fun b4=> ?_) (fun b4=> ?_)
 refine Y.seq (Y.region (Y.ql rfl (aA rfl .c) (Y.nt (Y.ret (Y.v (Y.j (Y.j ?_)))))))
 refine Y.v (Y.j ?_)
 refine Y.i (aU rfl .z) .n ?_
 exact⟨by first |(rw [hJ (by assumption)];done) |(rw [oF aa (fun h=>by have:=h.1;have:=h.2;omega)];done) |(rw [iC (fun j b hj hb=>hallk j b (by omega) hb) (by assumption) (by assumption)];done) |(rw [hY (fun j b hj hb=>hallk j b (by omega) hb) (by assumption) (by assumption)];done),rfl⟩
 refine Y.skip (Y.ab (Y.g (Y.region (Y.mv rfl .g14 ?_))))
 refine Y.ql rfl (bN (c:=((k+1:Nat):Int)) rfl (.t .z) .c (wr (by omega) (by omega) (by omega))) ?_
 refine Y.er .g16 (Y.as rfl .z (Y.nil ?_))
 refine Y.ae (k+1) ⟨by omega,dS (q:=fun _ b=>wE b) hallk aa ⟨by omega,by omega⟩⟩ (by first | omega |(dsimp only;omega)) (.c .z (.c (.s16 .g1) .n)) (fun _ h=>h)
 refine Y.exit (Y.y (Y.y (Y.ag (Y.g (Y.seq (Y.seq (Y.region (Y.mv rfl .g5 ?_))))))))
 refine Y.ql rfl (sU rfl (.t .z) .c) (Y.nt ?_)
 refine Y.u (.t .z) (fun b5=> ?_) (fun b5=> ?_)
 refine Y.seq (Y.region (Y.ql rfl (aA rfl .c) (Y.nt (Y.ret (Y.j ?_)))))
 refine Y.i (aU rfl .z) .n ?_
 exact⟨by first |(rw [hJ (by assumption)];done) |(rw [iC (fun j b hj hb=>hallk j b (by omega) hb) (by assumption) (by assumption)];done) |(rw [hY (fun j b hj hb=>hallk j b (by omega) hb) (by assumption) (by assumption)];done),rfl⟩
 refine Y.skip (Y.g (Y.seq (Y.seq (Y.region (Y.mv rfl .g7 (Y.ql rfl (lZ rfl u_9 (.t .z)) (Y.ql rfl (fI rfl (.t .z) .c) (Y.nil ?_))))))))
 refine Y.g ?_
 refine Y.u (.t .z) (fun b6=> ?_) (fun b6=> ?_)
 refine Y.seq (Y.region (Y.ql rfl (aA rfl .c) (Y.nt (Y.ret (Y.j ?_)))))
 refine Y.i (aU rfl .z) .n ?_
 exact⟨by first |(rw [hJ (by assumption)];done) |(rw [iC (fun j b hj hb=>hallk j b (by omega) hb) (by assumption) (by assumption)];done) |(rw [hY (fun j b hj hb=>hallk j b (by omega) hb) (by assumption) (by assumption)];done),rfl⟩
 refine Y.skip (Y.g (Y.seq (Y.region (Y.ql rfl (aA rfl .c) (Y.nt (Y.ret ?_))))))
 refine Y.i (aU rfl .z) .n ?_
 exact⟨by first |(rw [hJ (by assumption)];done) |(rw [iC (fun j b hj hb=>hallk j b (by omega) hb) (by assumption) (by assumption)];done) |(rw [hY (fun j b hj hb=>hallk j b (by omega) hb) (by assumption) (by assumption)];done),rfl⟩

end Go.Proofs.YtmejbfmhaoilmaaGreatDoor

/- What is proved: a name put into a directory, in plain Lean. No condition. -/
import Derived.Test.YtmejbfmhaoilmaaGreatBase1
import Derived.Lib.Overlaps
import Derived.Lib.AppendZerosOnto
import Derived.Test.YtmejbfmhaoilmaaGreatBase0
namespace Go.Proofs.YtmejbfmhaoilmaaGreat
open Go Go.RowKit
set_option linter.unusedVariables false
set_option linter.unusedSimpArgs false
def aEv (es:List bT) (s:ByteArray):Nat:=(es.takeWhile (fun x=>sLt x.name s)).length
theorem pQ {s : ByteArray} : ∀ {es : List bT} {k : Nat}, (∀ (j : Nat) e, j < k → es[j]? = some e → sLt e.name s = true) → k ≤ es.length → (k = es.length ∨ ∃ e, es[k]? = some e ∧ sLt e.name s = false) → aEv es s = k
  | [],k,_,h,_=>by simp at h;subst h;rfl
  | e :: es,0,_,_,h=>by
      obtain h |⟨y,hy,hn⟩:=h
      · simp at h
      · simp at hy;subst hy;simp [aEv,hn]
  | e :: es,k+1,ha,hk,h=>by
      have h0:=ha 0 e (by omega) (by simp)
      have ih:=pQ (s:=s) (es:=es) (k:=k) (fun j e hj he=>ha (j+1) e (by omega) (by simpa using he)) (by simpa using hk) (h.elim (fun h=> .inl (by simpa using h)) (fun⟨e,he,hn⟩=> .inr ⟨e,by simpa using he,hn⟩))
      unfold aEv at ih ⊢
      simp [List.takeWhile_cons,h0,ih]
abbrev gG (es:List bT) (n:bT):List bT:=es.take (aEv es n.name)++ [n]++es.drop (aEv es n.name)
theorem rO {es:List bT}{n:bT}{k:Nat} (h:aEv es n.name=k):es.take k++ [n]++es.drop k=gG es n:=by subst h;rfl
def qG (f:DFs) (a:Int) (s:ByteArray) (b:Int):Int:=
  if 0≤jE (aH f.inodes a) s then 7
  else if¬(bY f.inodes.length b∧bC f.inodes b≠0)then 4
  else if 6≤(aH f.inodes a).length∨(bC f.inodes b=1∧60≤dJ f.inodes b)then 2 else 0
def aJ2 (f:DFs) (a:Int) (s:ByteArray) (b:Int):DFs:=
  if bC f.inodes b=1 then⟨fX (gU f.inodes a (gG (aH f.inodes a) ⟨s,b⟩)) b (dJ f.inodes b+1),f.data⟩else dH f a (gG (aH f.inodes a) ⟨s,b⟩)
def nU (f:DFs) (a:Int) (s:ByteArray) (b:Int):DFs:=if qG f a s b=0 then aJ2 f a s b else f
theorem sK {f:DFs}{a b:Int}{s:ByteArray} (h:0≤jE (aH f.inodes a) s):qG f a s b=7:=if_pos h
theorem sO {f:DFs}{a b:Int}{s:ByteArray} (h:¬0≤jE (aH f.inodes a) s) (h2:¬(bY f.inodes.length b∧bC f.inodes b≠0)):qG f a s b=4:=by unfold qG;rw [if_neg h,if_pos h2]
theorem sI {f:DFs}{a b:Int}{s:ByteArray} (h:¬0≤jE (aH f.inodes a) s) (h2:bY f.inodes.length b∧bC f.inodes b≠0) (h3:6≤(aH f.inodes a).length∨(bC f.inodes b=1∧60≤dJ f.inodes b)):qG f a s b=2:=by unfold qG;rw [if_neg h,if_neg (by intro h4;exact h4 h2),if_pos h3]
theorem lK {f:DFs}{a b:Int}{s:ByteArray} (h:¬0≤jE (aH f.inodes a) s) (h2:bY f.inodes.length b∧bC f.inodes b≠0) (h3:¬(6≤(aH f.inodes a).length∨(bC f.inodes b=1∧60≤dJ f.inodes b))):qG f a s b=0:=by unfold qG;rw [if_neg h,if_neg (by intro h4;exact h4 h2),if_neg h3]
theorem iN {f:DFs}{a b:Int}{s:ByteArray} (h:¬qG f a s b=0):nU f a s b=f:=if_neg h
theorem qN {f:DFs}{a b:Int}{s:ByteArray} (h:qG f a s b=0) (h2:bC f.inodes b=1):nU f a s b=⟨fX (gU f.inodes a (gG (aH f.inodes a) ⟨s,b⟩)) b (dJ f.inodes b+1),f.data⟩:=by unfold nU;rw [if_pos h,aJ2,if_pos h2]
theorem qM {f:DFs}{a b:Int}{s:ByteArray} (h:qG f a s b=0) (h2:¬bC f.inodes b=1):nU f a s b=dH f a (gG (aH f.inodes a) ⟨s,b⟩):=by unfold nU;rw [if_pos h,aJ2,if_neg h2]
theorem vL {f:DFs}{a:Int}{s:ByteArray}{es:List bT} (ht:bK f=0) (e:aH f.inodes a=es):(0≤fC (dG s) es∧0≤jE (aH f.inodes a) s)∨(fC (dG s) es<0∧jE (aH f.inodes a) s<0):=by
  subst e
  by_cases h:fC (dG s) (aH f.inodes a)<0
  · exact .inr ⟨h,by rw [sA h];decide⟩
  · obtain ⟨ix, hix, hil, -⟩ := mB (show ¬ fC (dG s) (aH f.inodes a) = -1 by omega)
    exact .inl ⟨by omega,by rw [tJ hix];exact(yD ht hil).1⟩
end Go.Proofs.YtmejbfmhaoilmaaGreat
/- What is proved: where paths lead, in plain Lean. No condition. -/
namespace Go.Proofs.YtmejbfmhaoilmaaGreat
open Go Go.RowKit
set_option linter.unusedVariables false
set_option linter.unusedSimpArgs false
def wkC (xs : List aF) : Int → List ByteArray → Int × Int
  | a,[]=>(a,0)
  | a,n :: ns=>if bC xs a=2 then if jE (aH xs a) n<0 then(0,4)else wkC xs (jE (aH xs a) n) ns else(0,9)
theorem aKu {xs:List aF}{a:Int}{ns:List ByteArray}{k:Nat}{n:ByteArray} (h:ns[k]? =some n) (h2:¬bC xs a=2):wkC xs a (ns.drop k)=(0,9):=by
  rw [List.drop_eq_getElem?_toList_append,h]
  show wkC xs a (n :: ns.drop (k+1))=_
  rw [wkC,if_neg h2]
theorem aKi {xs:List aF}{a:Int}{ns:List ByteArray}{k:Nat}{n:ByteArray} (h:ns[k]? =some n) (h2:bC xs a=2) (h3:jE (aH xs a) n<0):wkC xs a (ns.drop k)=(0,4):=by
  rw [List.drop_eq_getElem?_toList_append,h]
  show wkC xs a (n :: ns.drop (k+1))=_
  rw [wkC,if_pos h2,if_pos h3]
theorem aLn {xs:List aF}{a:Int}{ns:List ByteArray}{k:Nat}{n:ByteArray} (h:ns[k]? =some n) (h2:bC xs a=2) (h3:¬jE (aH xs a) n<0):wkC xs a (ns.drop k)=wkC xs (jE (aH xs a) n) (ns.drop (k+1)):=by
  rw [List.drop_eq_getElem?_toList_append,h]
  show wkC xs a (n :: ns.drop (k+1))=_
  rw [wkC,if_pos h2,if_neg h3]
theorem aFj {xs:List aF}{a:Int}{ns:List ByteArray}{k:Nat} (h:ns.length≤k):wkC xs a (ns.drop k)=(a,0):=by rw [List.drop_eq_nil_of_le h];rfl
theorem wQ {f : DFs} (ht : bK f = 0) : ∀ (ns : List ByteArray) (a : Int), bY f.inodes.length a → bY f.inodes.length (wkC f.inodes a ns).1
  | [],a,h=>h
  | n :: ns,a,h=>by
    have h0:bY f.inodes.length 0:=⟨Int.le_refl _,by have:=(sL (qI ht).1).2.1;omega⟩
    unfold wkC
    split
    · split
      · exact h0
      · rename_i h3;exact wQ ht ns _ (xL ht h3)
    · exact h0
theorem tK {f:DFs} (ht:bK f=0):bY f.inodes.length 0:=⟨Int.le_refl _,by have:=(sL (qI ht).1).2.1;omega⟩
def cR (f:DFs) (s:ByteArray):Int×Int:=if fL s=0 then wkC f.inodes 0 (dR s)else(0,fL s)
theorem aDb {f:DFs}{s:ByteArray} (h:¬fL s=0):cR f s=(0,fL s):=if_neg h
theorem aDm {f:DFs}{s:ByteArray} (h:fL s=0):cR f s=wkC f.inodes 0 (dR s):=if_pos h
theorem aBr {f:DFs} (ht:bK f=0) (s:ByteArray):bY f.inodes.length (cR f s).1:=by
  unfold cR
  split
  · exact wQ ht _ _ (tK ht)
  · exact tK ht
def aQ (f:DFs) (s:ByteArray):Int×ByteArray×Int:=
  if kX s=0 then if(wkC f.inodes 0 (gL s)).2=0 then if bC f.inodes (wkC f.inodes 0 (gL s)).1=2 then((wkC f.inodes 0 (gL s)).1,pZ s,0)else(0,⟨#[]⟩,9)else(0,⟨#[]⟩,(wkC f.inodes 0 (gL s)).2)else(0,⟨#[]⟩,kX s)
theorem zI {f:DFs}{s:ByteArray} (h:¬kX s=0):aQ f s=(0,⟨#[]⟩,kX s):=if_neg h
theorem zH {f:DFs}{s:ByteArray} (h:kX s=0) (h2:¬(wkC f.inodes 0 (gL s)).2=0):aQ f s=(0,⟨#[]⟩,(wkC f.inodes 0 (gL s)).2):=by rw [aQ,if_pos h,if_neg h2]
theorem zX {f:DFs}{s:ByteArray} (h:kX s=0) (h2:(wkC f.inodes 0 (gL s)).2=0) (h3:¬bC f.inodes (wkC f.inodes 0 (gL s)).1=2):aQ f s=(0,⟨#[]⟩,9):=by rw [aQ,if_pos h,if_pos h2,if_neg h3]
theorem aAl {f:DFs}{s:ByteArray} (h:kX s=0) (h2:(wkC f.inodes 0 (gL s)).2=0) (h3:bC f.inodes (wkC f.inodes 0 (gL s)).1=2):aQ f s=((wkC f.inodes 0 (gL s)).1,pZ s,0):=by rw [aQ,if_pos h,if_pos h2,if_pos h3]
theorem nM {f:DFs}{s:ByteArray}:(aQ f s).2.1.size≤4:=by
  have:=wU s
  by_cases h1:kX s=0
  · by_cases h2 : (wkC f.inodes 0 (gL s)).2 = 0
    · by_cases h3 : bC f.inodes (wkC f.inodes 0 (gL s)).1 = 2
      · rw [aAl h1 h2 h3];exact this
      · rw [zX h1 h2 h3];exact Nat.zero_le _
    · rw [zH h1 h2];exact Nat.zero_le _
  · rw [zI h1];exact Nat.zero_le _
def sM (xs:List aF) (a:Int):Int:=match xs[a.toNat]? with | some x=>x.size | none=>0
theorem vO {xs:List aF}{a:Int}{j:Nat}{x:aF} (hx:xs[j]? =some x) (h:a=(j:Int)):sM xs a=x.size:=by
  subst h
  unfold sM
  rw [Int.toNat_natCast,hx]
def aB4 (f:DFs) (a:Int):aGz:=if bC f.inodes a=2 then⟨0,a,bC f.inodes a,1,((aH f.inodes a).length:Int)⟩else⟨0,a,bC f.inodes a,dJ f.inodes a,sM f.inodes a⟩
theorem aEf {f:DFs}{a:Int} (h:bC f.inodes a=2):aB4 f a=⟨0,a,bC f.inodes a,1,((aH f.inodes a).length:Int)⟩:=if_pos h
theorem aDw {f:DFs}{a:Int} (h:¬bC f.inodes a=2):aB4 f a=⟨0,a,bC f.inodes a,dJ f.inodes a,sM f.inodes a⟩:=if_neg h
noncomputable def kF (f:DFs) (s:ByteArray):aGz:=if eO f=0 then if(cR f s).2=0 then aB4 f (cR f s).1 else⟨(cR f s).2,0,0,0,0⟩else⟨eO f,0,0,0,0⟩
theorem vI {f:DFs}{s:ByteArray} (h:¬eO f=0):kF f s=⟨eO f,0,0,0,0⟩:=if_neg h
theorem vM {f:DFs}{s:ByteArray} (h:eO f=0) (h2:¬(cR f s).2=0):kF f s=⟨(cR f s).2,0,0,0,0⟩:=by rw [kF,if_pos h,if_neg h2]
theorem vE {f:DFs}{s:ByteArray} (h:eO f=0) (h2:(cR f s).2=0):kF f s=aB4 f (cR f s).1:=by rw [kF,if_pos h,if_pos h2]
end Go.Proofs.YtmejbfmhaoilmaaGreat
/- What is proved: the answers of AddName. No condition. -/
namespace Go.Proofs.YtmejbfmhaoilmaaGreat
set_option linter.unusedVariables false
set_option linter.unusedSimpArgs false
end Go.Proofs.YtmejbfmhaoilmaaGreat
/- What is proved: what a drawn tree keeps through all calls: its places lie where they should; plain Lean. No condition. -/
namespace Go.Proofs.YtmejbfmhaoilmaaGreat
open Go Go.RowKit
set_option linter.unusedVariables false
set_option linter.unusedSimpArgs false
structure Jx (n : Nat) (x : aF) : Prop where
  k:0≤x.kind∧x.kind≤2
  l:0≤x.links∧x.links≤60
  z:x.kind=1∨x.links=0
  s:0≤x.size∧x.size≤32
  b:∀b,b∈x.blocks→0≤b∧b≤19
  bl:x.blocks.length≤4
  e6:x.ents.length≤6
  e:∀e,e∈x.ents→(0≤e.ino∧e.ino<(n:Int))∧e.name.size≤4
structure J0 (f : DFs) : Prop where
  n:0<f.inodes.length∧f.inodes.length≤10
  d:f.data.length=20
  x:∀x,x∈f.inodes→Jx f.inodes.length x
structure Jf (f : DFs) : Prop extends J0 f where
  o:∀x,x∈f.inodes→x.kind=1→1≤x.links
theorem Jx.up {n m:Nat}{x:aF} (h:Jx n x) (hm:n≤m):Jx m x:=⟨h.k,h.l,h.z,h.s,h.b,h.bl,h.e6,fun e he=>by have:=h.e e he;exact⟨by omega,this.2⟩⟩
theorem aAe (n:Nat):Jx n ⟨0,0,0,[],[]⟩:=⟨by decide,by decide,.inr rfl,by decide,fun _ h=>absurd h (by simp),by decide,by decide,fun _ h=>absurd h (by simp)⟩
theorem aEb {n:Nat}{k:Int} (h:0≤k∧k≤2):Jx n ⟨k,0,0,[],[]⟩:=⟨h,by dsimp only;omega,.inr rfl,by dsimp only;omega,fun _ h=>absurd h (by simp),by simp,by simp,fun _ h=>absurd h (by simp)⟩
theorem J0.get {f:DFs} (h:J0 f) {j:Nat}{x:aF} (hx:f.inodes[j]? =some x):Jx f.inodes.length x:=h.x x (List.mem_of_getElem? hx)
theorem aL6 : Jf ⟨[⟨2, 0, 0, [], []⟩], List.replicate 20 []⟩ where
  n:=by decide
  d:=by simp
  x:=fun x hx=>by obtain rfl:=List.mem_singleton.1 hx;exact aEb (by decide)
  o:=fun x hx hk=>by obtain rfl:=List.mem_singleton.1 hx;exact absurd hk (by decide)
theorem zL {α:Type}{xs:List α}{j:Nat}{y z:α} (h:z∈xs.set j y):z=y∨z∈xs:=by
  obtain⟨i,hi⟩:=List.mem_iff_getElem?.1 h
  rw [List.getElem?_set] at hi
  split at hi
  · split at hi
    · exact .inl (Option.some.inj hi).symm
    · cases hi
  · exact .inr (List.mem_of_getElem? hi)
theorem aAb {xs : List aF} {d : List (List UInt8)} {j : Nat} {y : aF} (h : J0 ⟨xs, d⟩) (hy : Jx xs.length y) : J0 ⟨xs.set j y, d⟩ where
  n:=by simpa using h.n
  d:=h.d
  x:=fun x hx=>by
    show Jx (xs.set j y).length x
    rw [List.length_set]
    rcases zL hx with rfl | hx
    · exact hy
    · exact h.x x hx
theorem aC6 {xs : List aF} {d : List (List UInt8)} {j : Nat} {y : aF} (h : Jf ⟨xs, d⟩) (hy : Jx xs.length y) (ho : y.kind = 1 → 1 ≤ y.links) : Jf ⟨xs.set j y, d⟩ where
  toJ0:=aAb h.toJ0 hy
  o:=fun x hx=>by
    rcases zL hx with rfl | hx
    · exact ho
    · exact h.o x hx
theorem aCe {xs:List aF}{d d':List (List UInt8)} (h:Jf ⟨xs,d⟩) (hd:d'.length=20):Jf ⟨xs,d'⟩:=⟨⟨h.n,hd,h.x⟩,h.o⟩
theorem aJe {xs : List aF} {d : List (List UInt8)} (h : Jf ⟨xs, d⟩) (hl : xs.length < 10) : Jf ⟨xs ++ [⟨0, 0, 0, [], []⟩], d⟩ where
  n:=by simp;omega
  d:=h.d
  x:=fun x hx=>by
    show Jx (xs++ [_]).length x
    rw [List.length_append]
    rcases List.mem_append.1 hx with hx | hx
    · exact(h.x x hx).up (by show xs.length≤_;omega)
    · obtain rfl:=List.mem_singleton.1 hx;exact aAe _
  o:=fun x hx hk=>by
    rcases List.mem_append.1 hx with hx | hx
    · exact h.o x hx hk
    · obtain rfl:=List.mem_singleton.1 hx;exact absurd hk (by decide)
theorem aF9 {f:DFs} (h:J0 f) {a:Int}{i:Nat}{e:bT} (he:(aH f.inodes a)[i]? =some e):bY f.inodes.length e.ino∧e.name.size≤4:=by
  unfold aH at he
  cases hx:f.inodes[a.toNat]? with
  | none=>rw [hx] at he;simp at he
  | some x=>
    rw [hx] at he
    have:=(h.get hx).e e (List.mem_of_getElem? he)
    exact⟨⟨this.1.1,by omega⟩,this.2⟩
theorem kW {f:DFs} (h:J0 f) (a:Int):(aH f.inodes a).length≤6:=by
  unfold aH
  cases hx:f.inodes[a.toNat]? with
  | none=>simp
  | some x=>exact(h.get hx).e6
theorem pP {f:DFs} (h:J0 f) {a:Int}{i:Nat} (hi:i<(aH f.inodes a).length):bY f.inodes.length (eV (aH f.inodes a) i):=by
  obtain⟨e,he⟩:=aJ hi
  rw [nA he]
  exact(aF9 h he).1
theorem uU {f:DFs} (h:J0 f) {a:Int}{s:ByteArray} (hk:¬jE (aH f.inodes a) s<0):bY f.inodes.length (jE (aH f.inodes a) s):=by
  obtain⟨ix,hi⟩:=aBm hk
  have hr:=gM (dG s) (aH f.inodes a)
  rw [tJ hi]
  exact pP h (by omega)
theorem fD {f:DFs}{a:Int}{s:ByteArray}{es:List bT} (h:J0 f) (e:aH f.inodes a=es):(0≤fC (dG s) es∧0≤jE (aH f.inodes a) s)∨(fC (dG s) es<0∧jE (aH f.inodes a) s<0):=by
  subst e
  by_cases hk:fC (dG s) (aH f.inodes a)<0
  · exact .inr ⟨hk,by rw [sA hk];decide⟩
  · obtain ⟨ix, hix, hil, -⟩ := mB (show ¬ fC (dG s) (aH f.inodes a) = -1 by omega)
    exact .inl ⟨by omega,by rw [tJ hix];exact(pP h hil).1⟩
theorem jS {f:DFs} (h:J0 f):bY f.inodes.length 0:=⟨Int.le_refl _,by have:=h.n.1;omega⟩
theorem pC {f : DFs} (h : J0 f) : ∀ (ns : List ByteArray) (a : Int), bY f.inodes.length a → bY f.inodes.length (wkC f.inodes a ns).1
  | [],a,ha=>ha
  | n :: ns,a,ha=>by
    unfold wkC
    split
    · split
      · exact jS h
      · rename_i h3;exact pC h ns _ (uU h h3)
    · exact jS h
theorem pO {f:DFs} (h:J0 f) (s:ByteArray):bY f.inodes.length (cR f s).1:=by
  unfold cR
  split
  · exact pC h _ _ (jS h)
  · exact jS h
theorem lS {f:DFs} (h:J0 f) (s:ByteArray):bY f.inodes.length (aQ f s).1:=by
  by_cases h1:kX s=0
  · by_cases h2 : (wkC f.inodes 0 (gL s)).2 = 0
    · by_cases h3 : bC f.inodes (wkC f.inodes 0 (gL s)).1 = 2
      · rw [aAl h1 h2 h3];exact pC h _ _ (jS h)
      · rw [zX h1 h2 h3];exact jS h
    · rw [zH h1 h2];exact jS h
  · rw [zI h1];exact jS h
theorem jG {f:DFs} (h:J0 f):∀(j:Nat) (x:aF),f.inodes[j]? =some x→∀(i:Nat) (e:bT),x.ents[i]? =some e→e.ino<(f.inodes.length:Int):=fun j x hx i e he=>((h.get hx).e e (List.mem_of_getElem? he)).1.2
theorem qL {n:Nat}{x:aF} (h:Jx n x):∀(j:Nat) (e:bT),x.ents[j]? =some e→(0≤e.ino∧e.ino<(n:Int))∧e.name.size≤4:=fun j e he=>h.e e (List.mem_of_getElem? he)
theorem wT {f:DFs} (h:J0 f) (k:Int):0≤dJ f.inodes k∧dJ f.inodes k≤60:=by
  unfold dJ
  cases hx:f.inodes[k.toNat]? with
  | none=>simp
  | some x=>exact(h.get hx).l
theorem aAv {f:DFs} (h:J0 f) {k:Int} (hk:bC f.inodes k=1):0≤dJ f.inodes k∧dJ f.inodes k≤60:=wT h k
theorem kG {f:DFs} (h:J0 f) {k:Int} (hk:¬bC f.inodes k=1):dJ f.inodes k=0:=by
  unfold bC at hk
  unfold dJ
  cases hx:f.inodes[k.toNat]? with
  | none=>rfl
  | some x=>
    rw [hx] at hk
    exact(h.get hx).z.resolve_left hk
theorem aKt {f:DFs} (h:J0 f) (k:Int):0≤bC f.inodes k∧bC f.inodes k≤2:=by
  unfold bC
  cases hx:f.inodes[k.toNat]? with
  | none=>simp
  | some x=>exact(h.get hx).k
theorem aLs {f:DFs} (h:J0 f) (k:Int):0≤sM f.inodes k∧sM f.inodes k≤32:=by
  unfold sM
  cases hx:f.inodes[k.toNat]? with
  | none=>simp
  | some x=>exact(h.get hx).s
theorem aFs {f:DFs} (h:J0 f) (s:ByteArray):(0≤(kF f s).kind∧(kF f s).kind≤2)∧(0≤(kF f s).links∧(kF f s).links≤60)∧(0≤(kF f s).size∧(kF f s).size≤32):=by
  unfold kF
  split
  · split
    · have h1 := aKt h (cR f s).1
      have h2:=wT h (cR f s).1
      have h3:=aLs h (cR f s).1
      have h4:=kW h (cR f s).1
      unfold aB4
      split
      · dsimp only;omega
      · dsimp only;omega
    · dsimp only;omega
  · dsimp only;omega
theorem aHt {f:DFs} (h:J0 f) (k:Int):∀b,b∈eE f.inodes k→0≤b∧b≤19:=by
  unfold eE
  cases hx:f.inodes[k.toNat]? with
  | none=>intro b hb;cases hb
  | some x=>exact(h.get hx).b
theorem aBz {α : Type} {f : α → Nat} (h : ∀ x, f x ≤ 1) : ∀ xs : List α, gS f xs ≤ xs.length
  | []=>Nat.zero_le _
  | x :: xs=>by have h1:=h x;have h2:=aBz h xs;simp only [gS,List.length_cons];omega
theorem aEs {f:DFs} (h:J0 f) (k:Int):fM f.inodes k≤60:=by
  have h1:fM f.inodes k≤f.inodes.length * 6:=tE fun x hx=>Nat.le_trans (aBz (fun e=>by unfold oF;split <;> omega) x.ents) (h.x x hx).e6
  have:=h.n.2
  omega
theorem aE9 {f : DFs} (h : Jf f) {k : Int} (hp : bY f.inodes.length k) : vH f k where
  p:=hp
  d:=h.d
  b:=aHt h.toJ0 k
  l:=aEs h.toJ0 k
  k:=fun hk=>by
    refine⟨?_,(wT h.toJ0 k).2⟩
    unfold bC at hk
    unfold dJ
    cases hx:f.inodes[k.toNat]? with
    | none=>rw [hx] at hk;exact absurd hk (by decide)
    | some x=>rw [hx] at hk;exact h.o x (List.mem_of_getElem? hx) hk
theorem aBl {f:DFs} (h:J0 f) {a:Int}{es:List bT} (h6:es.length≤6) (he:∀e,e∈es→bY f.inodes.length e.ino∧e.name.size≤4):J0 (dH f a es):=by
  show J0 ⟨gU f.inodes a es,f.data⟩
  unfold gU
  split
  · rename_i y hy
    have:=h.get hy
    exact aAb h ⟨this.k,this.l,this.z,this.s,this.b,this.bl,h6,fun e hm=>⟨⟨(he e hm).1.1,by have:=(he e hm).1.2;omega⟩,(he e hm).2⟩⟩
  · exact h
theorem aHu {f:DFs} (h:Jf f) {a:Int}{es:List bT} (h6:es.length≤6) (he:∀e,e∈es→bY f.inodes.length e.ino∧e.name.size≤4):Jf (dH f a es):=by
  refine⟨aBl h.toJ0 h6 he,?_⟩
  show∀x,x∈gU f.inodes a es→x.kind=1→1≤x.links
  unfold gU
  split
  · rename_i y hy
    intro x hx
    rcases zL hx with rfl | hx
    · exact h.o y (List.mem_of_getElem? hy)
    · exact h.o x hx
  · exact h.o
theorem aA0 {xs:List aF}{a:Int}{e:bT} (h:e∈aH xs a):∃i:Nat,(aH xs a)[i]? =some e:=List.mem_iff_getElem?.1 h
theorem vR {f:DFs} (h:Jf f) {a:Int}{i:Nat}:Jf (dH f a ((aH f.inodes a).eraseIdx i)):=
  aHu h (Nat.le_trans (List.length_eraseIdx_le _ _) (kW h.toJ0 a)) fun e he=>by
    obtain⟨j,hj⟩:=aA0 (List.mem_of_mem_eraseIdx he)
    exact aF9 h.toJ0 hj
theorem aB1 {es:List bT}{n e:bT} (h:e∈gG es n):e=n∨e∈es:=by
  simp only [gG,List.mem_append,List.mem_singleton] at h
  rcases h with (h | h) | h
  · exact .inr (List.mem_of_mem_take h)
  · exact .inl h
  · exact .inr (List.mem_of_mem_drop h)
theorem aBv {es:List bT}{n:bT}:(gG es n).length=es.length+1:=by
  simp only [gG,List.length_append,List.length_take,List.length_drop,List.length_cons,List.length_nil]
  omega
theorem aJz {f:DFs} (h:J0 f) {a:Int}{e:bT} (h5:(aH f.inodes a).length≤5) (hp:bY f.inodes.length e.ino) (hn:e.name.size≤4):J0 (dH f a (gG (aH f.inodes a) e)):=
  aBl h (by rw [aBv];omega) fun e' he=>by
    rcases aB1 he with rfl | he
    · exact⟨hp,hn⟩
    · obtain⟨j,hj⟩:=aA0 he;exact aF9 h hj
theorem aDc {f:DFs} (h:J0 f) {a n:Int} (hk:bC f.inodes a=1) (hn:1≤n∧n≤60) (ho:∀(j:Nat) x,f.inodes[j]? =some x→j≠a.toNat→x.kind=1→1≤x.links):Jf ⟨fX f.inodes a n,f.data⟩:=by
  unfold fX
  unfold bC at hk
  cases hx:f.inodes[a.toNat]? with
  | none=>rw [hx] at hk;exact absurd hk (by decide)
  | some y=>
    rw [hx] at hk
    simp only at hk ⊢
    have:=h.get hx
    refine⟨aAb h ⟨this.k,by dsimp only;omega,.inl hk,this.s,this.b,this.bl,this.e6,this.e⟩,fun x hm hk1=> ?_⟩
    obtain⟨i,hi⟩:=List.mem_iff_getElem?.1 hm
    rw [List.getElem?_set] at hi
    split at hi
    · split at hi
      · obtain rfl:=Option.some.inj hi;exact hn.1
      · cases hi
    · rename_i hne;exact ho i x hi (fun e=>hne e.symm) hk1
theorem aJu {f:DFs} (h:Jf f) (k:Int):Jf (oN f k):=
  aCe (aC6 h (aAe _) (fun hk=>absurd hk (by decide))) (by rw [iH];exact h.d)
theorem aKb {f:DFs} (h:Jf f) (k:Int):Jf (iG f k):=by
  by_cases h1:bC f.inodes k=1
  · by_cases h2 : 1 < dJ f.inodes k
    · rw [tF h1 h2]
      exact aDc h.toJ0 h1 (by have:=wT h.toJ0 k;omega) fun j x hx _=>h.o x (List.mem_of_getElem? hx)
    · by_cases h3 : fM f.inodes k = 0
      · rw [nH h1 h2 h3];exact aJu h k
      · rw [tG h1 h2 h3];exact h
  · rw [sT h1];exact h
def iZ (f:DFs) (a:Int) (i:Nat):DFs:=
  if bC (iG (dH f a ((aH f.inodes a).eraseIdx i)) (eV (aH f.inodes a) i)).inodes (eV (aH f.inodes a) i)=2 then⟨(iG (dH f a ((aH f.inodes a).eraseIdx i)) (eV (aH f.inodes a) i)).inodes.set (eV (aH f.inodes a) i).toNat ⟨0,0,0,[],[]⟩,(iG (dH f a ((aH f.inodes a).eraseIdx i)) (eV (aH f.inodes a) i)).data⟩
  else iG (dH f a ((aH f.inodes a).eraseIdx i)) (eV (aH f.inodes a) i)
theorem aDf {f:DFs}{a:Int}{i:Nat} (h:bC (iG (dH f a ((aH f.inodes a).eraseIdx i)) (eV (aH f.inodes a) i)).inodes (eV (aH f.inodes a) i)=2):iZ f a i=⟨(iG (dH f a ((aH f.inodes a).eraseIdx i)) (eV (aH f.inodes a) i)).inodes.set (eV (aH f.inodes a) i).toNat ⟨0,0,0,[],[]⟩,(iG (dH f a ((aH f.inodes a).eraseIdx i)) (eV (aH f.inodes a) i)).data⟩:=if_pos h
theorem aDa {f:DFs}{a:Int}{i:Nat} (h:¬bC (iG (dH f a ((aH f.inodes a).eraseIdx i)) (eV (aH f.inodes a) i)).inodes (eV (aH f.inodes a) i)=2):iZ f a i=iG (dH f a ((aH f.inodes a).eraseIdx i)) (eV (aH f.inodes a) i):=if_neg h
theorem vY {f:DFs}{k:Int}:(iG f k).inodes.length=f.inodes.length:=by
  unfold iG
  split
  · split
    · exact dV
    · split
      · simp
      · rfl
  · rfl
theorem jA {f:DFs} (h:Jf f) (a:Int) (i:Nat):Jf (iZ f a i):=by
  have h1:=aKb (vR h (a:=a) (i:=i)) (eV (aH f.inodes a) i)
  unfold iZ
  split
  · exact aC6 h1 (aAe _) (fun hk=>absurd hk (by decide))
  · exact h1
theorem yN {f:DFs}{a:Int}{i:Nat}:(iZ f a i).inodes.length=f.inodes.length:=by
  unfold iZ
  split
  · rw [List.length_set,vY];exact dF
  · rw [vY];exact dF
theorem qP {xs:List aF}{j:Nat}{y:aF}{d:Int} (h:d.toNat≠j):aH (xs.set j y) d=aH xs d:=by
  unfold aH
  rw [List.getElem?_set_ne (fun e=>h e.symm)]
theorem xJ {xs:List aF}{a n d:Int}:aH (fX xs a n) d=aH xs d:=by
  unfold aH
  cases h:(fX xs a n)[d.toNat]? with
  | none=>rw [List.getElem?_eq_none_iff,dV] at h;rw [List.getElem?_eq_none h]
  | some y=>obtain⟨x,hx,rfl⟩:=yR _ y h;rw [hx]
theorem sJ {xs:List aF}{a d:Int}{es:List bT} (h:a.toNat<xs.length):aH (gU xs a es) d=if d.toNat=a.toNat then es else aH xs d:=by
  unfold aH
  cases hg:(gU xs a es)[d.toNat]? with
  | none=>
    rw [List.getElem?_eq_none_iff,dF] at hg
    rw [if_neg (by omega),List.getElem?_eq_none hg]
  | some y=>obtain⟨x,hx,rfl⟩:=pA _ y hg;rw [hx]
theorem yC {f:DFs}{k d:Int} (h:d.toNat≠k.toNat):aH (iG f k).inodes d=aH f.inodes d:=by
  unfold iG
  split
  · split
    · exact xJ
    · split
      · exact qP h
      · rfl
  · rfl
theorem xU {f:DFs}{k d:Int}:(aH (iG f k).inodes d).length≤(aH f.inodes d).length:=by
  by_cases h:d.toNat=k.toNat
  · unfold iG
    split
    · split
      · rw [xJ];exact Nat.le_refl _
      · split
        · show (aH (f.inodes.set k.toNat ⟨0, 0, 0, [], []⟩) d).length ≤ _
          by_cases hl:k.toNat<f.inodes.length
          · have : aH (f.inodes.set k.toNat ⟨0, 0, 0, [], []⟩) d = [] := by unfold aH; rw [h, List.getElem?_set_self hl]
            rw [this];exact Nat.zero_le _
          · rw [List.set_eq_of_length_le (by omega)];exact Nat.le_refl _
        · exact Nat.le_refl _
    · exact Nat.le_refl _
  · rw [yC h];exact Nat.le_refl _
theorem xX {xs:List aF}{j:Nat}{d:Int}:(aH (xs.set j ⟨0,0,0,[],[]⟩) d).length≤(aH xs d).length:=by
  by_cases h:d.toNat=j
  · by_cases hl : j < xs.length
    · have : aH (xs.set j ⟨0, 0, 0, [], []⟩) d = [] := by unfold aH; rw [h, List.getElem?_set_self hl]
      rw [this];exact Nat.zero_le _
    · rw [List.set_eq_of_length_le (by omega)];exact Nat.le_refl _
  · rw [qP h];exact Nat.le_refl _
theorem aCa {f:DFs}{a d:Int}{i:Nat} (ha:a.toNat<f.inodes.length) (hd:d.toNat≠(eV (aH f.inodes a) i).toNat):aH (iZ f a i).inodes d=if d.toNat=a.toNat then(aH f.inodes a).eraseIdx i else aH f.inodes d:=by
  have h1:aH (iG (dH f a ((aH f.inodes a).eraseIdx i)) (eV (aH f.inodes a) i)).inodes d=if d.toNat=a.toNat then(aH f.inodes a).eraseIdx i else aH f.inodes d:=by
    rw [yC hd];exact sJ ha
  unfold iZ
  split
  · show aH (List.set _ _ _) d = _
    rw [qP hd];exact h1
  · exact h1
theorem sV {f:DFs}{a:Int}{i:Nat} (ha:a.toNat<f.inodes.length) (hi:i<(aH f.inodes a).length):(aH (iZ f a i).inodes a).length+1≤(aH f.inodes a).length:=by
  have h0:(aH (dH f a ((aH f.inodes a).eraseIdx i)).inodes a).length+1=(aH f.inodes a).length:=by
    show(aH (gU f.inodes a _) a).length+1=_
    rw [sJ ha,if_pos rfl,List.length_eraseIdx_of_lt hi];omega
  have h1:=xU (f:=dH f a ((aH f.inodes a).eraseIdx i)) (k:=eV (aH f.inodes a) i) (d:=a)
  unfold iZ
  split
  · have h2 := xX (xs := (iG (dH f a ((aH f.inodes a).eraseIdx i)) (eV (aH f.inodes a) i)).inodes) (j := (eV (aH f.inodes a) i).toNat) (d := a)
    show(aH (List.set _ _ _) a).length+1≤_
    omega
  · omega
theorem aIx {f:DFs} (h:J0 f) {a b:Int}{s:ByteArray} (hs:s.size≤4) (ho:qG f a s b=0∨Jf f) (hf:∀(j:Nat) x,f.inodes[j]? =some x→j≠b.toNat→x.kind=1→1≤x.links):Jf (nU f a s b):=by
  by_cases hc:qG f a s b=0
  · have hc' := hc
    unfold qG at hc'
    split at hc'
    · exact absurd hc' (by decide)
    · split at hc'
      · exact absurd hc' (by decide)
      · split at hc'
        · exact absurd hc' (by decide)
        · rename_i h1 h2 h3
          have h2':bY f.inodes.length b∧bC f.inodes b≠0:=Classical.byContradiction h2
          have hj:=aJz h (a:=a) (e:=⟨s,b⟩) (by omega) h2'.1 hs
          have hoth:∀(j:Nat) x,(gU f.inodes a (gG (aH f.inodes a) ⟨s,b⟩))[j]? =some x→j≠b.toNat→x.kind=1→1≤x.links:=fun j x hx hne hk=>by
            obtain⟨y,hy,rfl⟩:=pA _ x hx
            exact hf j y hy hne hk
          by_cases hk:bC f.inodes b=1
          · rw [qN hc hk]
            exact aDc hj (by rw [wM];exact hk) (by have:=wT h b;omega) hoth
          · rw [qM hc hk]
            refine⟨hj,fun x hx hk1=> ?_⟩
            obtain⟨j,hjx⟩:=List.mem_iff_getElem?.1 hx
            by_cases hjb:j=b.toNat
            · subst hjb
              obtain⟨y,hy,rfl⟩:=pA _ x hjx
              unfold bC at hk
              rw [hy] at hk
              exact absurd hk1 hk
            · exact hoth j x hjx hjb hk1
  · rw [iN hc]
    exact ho.elim (fun h=>absurd h hc) id
theorem xK {f:DFs} (h:Jf f) {a b:Int}{s:ByteArray} (hs:s.size≤4):Jf (nU f a s b):=aIx h.toJ0 hs (.inr h) fun j x hx _=>h.o x (List.mem_of_getElem? hx)
theorem aJ6 {f:DFs} (h:Jf f) {xs:List aF} (hxs:xs=f.inodes∨(f.inodes.length<10∧xs=f.inodes++ [⟨0,0,0,[],[]⟩])) {a b k:Int}{s:ByteArray} (hk:1≤k∧k≤2) (hb:0≤b∧b<(xs.length:Int)) (hs:s.size≤4) (hl:jE (aH xs a) s<0) (h6:(aH xs a).length<6) (hne:a.toNat≠b.toNat):
    J0 ⟨xs.set b.toNat ⟨k,0,0,[],[]⟩,f.data⟩∧Jf (nU ⟨xs.set b.toNat ⟨k,0,0,[],[]⟩,f.data⟩ a s b):=by
  have hj:Jf ⟨xs,f.data⟩:=by
    rcases hxs with rfl |⟨h1,rfl⟩
    · exact h
    · exact aJe h h1
  have h0:=aAb hj.toJ0 (j:=b.toNat) (aEb (n:=xs.length) (k:=k) (by omega))
  have hlt:b.toNat<xs.length:=by omega
  have hkb:bC (xs.set b.toNat ⟨k,0,0,[],[]⟩) b=k:=by unfold bC;rw [List.getElem?_set_self hlt]
  have hlb:dJ (xs.set b.toNat ⟨k,0,0,[],[]⟩) b=0:=by unfold dJ;rw [List.getElem?_set_self hlt]
  have hea:aH (xs.set b.toNat ⟨k,0,0,[],[]⟩) a=aH xs a:=qP hne
  have hc:qG ⟨xs.set b.toNat ⟨k,0,0,[],[]⟩,f.data⟩ a s b=0:=by
    refine lK ?_ ?_ ?_
    · show ¬ 0 ≤ jE (aH (xs.set b.toNat _) a) s
      rw [hea];omega
    · show bY (xs.set b.toNat _).length b ∧ bC (xs.set b.toNat _) b ≠ 0
      rw [hkb,List.length_set]
      exact⟨⟨hb.1,by omega⟩,by omega⟩
    · show ¬ (6 ≤ (aH (xs.set b.toNat _) a).length ∨ (bC (xs.set b.toNat _) b = 1 ∧ 60 ≤ dJ (xs.set b.toNat _) b))
      rw [hea,hlb];omega
  refine⟨h0,aIx h0 hs (.inl hc) fun j x hx hne hk1=> ?_⟩
  have hx':(xs.set b.toNat ⟨k,0,0,[],[]⟩)[j]? =some x:=hx
  rw [List.getElem?_set_ne (fun e=>hne e.symm)] at hx'
  exact hj.o x (List.mem_of_getElem? hx') hk1
theorem aKa {f:DFs} (h:Jf f) {a:Int}{L:List UInt8}{ws:List Int} (hL:L.length≤32) (hw:∀b,b∈ws→0≤b∧b≤19) (hl:ws.length≤4):Jf (kY f a L ws):=by
  have hd:(oC (fW f a) ws L ws.length).length=20:=by rw [nV,iH];exact h.d
  show Jf ⟨pG f.inodes a L.length ws,oC (fW f a) ws L ws.length⟩
  unfold pG
  cases hx:f.inodes[a.toNat]? with
  | none=>exact aCe (xs:=f.inodes) h hd
  | some y=>
    have:=h.get hx
    exact aCe (aC6 (y:=⟨y.kind,y.links,L.length,ws,y.ents⟩) h ⟨this.k,this.l,this.z,by dsimp only;omega,hw,hl,this.e6,this.e⟩ (h.o y (List.mem_of_getElem? hx))) hd
theorem aEy {xs:List aF}{a n:Int}{ws:List Int}:(pG xs a n ws).length=xs.length:=by
  unfold pG;split <;> simp
theorem aF0 {f:DFs} (h:Jf f) {a:Int}{L:List UInt8}{busy:List Int} (hc:(pN f a L busy).code=0):Jf (pN f a L busy).fs∧(pN f a L busy).fs.inodes.length=f.inodes.length:=by
  by_cases h1:(L.length:Int)≤32
  · by_cases h2 : (dB f L busy).code = 0
    · rw [uA h1 h2]
      have hp:=vD h2
      have h9:((dB f L busy).list.length:Int)=((L.length:Int)+7) / 8:=hp.2
      exact⟨aKa h (by omega) hp.1 (by omega),aEy⟩
    · rw [tT h1 h2] at hc;exact absurd hc h2
  · rw [qZ h1] at hc;exact absurd hc (by decide)
theorem aHm {f:DFs} (h:Jf f) {a i:Int}{ys:List UInt8}{busy:List Int} (hc:(hX f a i ys busy).code=0):Jf (hX f a i ys busy).fs∧(hX f a i ys busy).fs.inodes.length=f.inodes.length:=by
  unfold hX at hc ⊢
  split at hc
  · rename_i h1
    rw [if_pos h1]
    split at hc
    · rename_i h2
      rw [if_pos h2]
      split at hc
      · exact absurd hc (by decide)
      · rename_i h3
        rw [if_neg h3]
        split at hc
        · rename_i h4;rw [if_pos h4];exact⟨h,rfl⟩
        · rename_i h4;rw [if_neg h4];exact aF0 h hc
    · exact absurd hc (by decide)
  · rename_i h1;exact absurd hc h1
theorem aLh {f:DFs} (h:Jf f) {a n:Int}{busy:List Int} (hc:(gW f a n busy).code=0):Jf (gW f a n busy).fs∧(gW f a n busy).fs.inodes.length=f.inodes.length:=by
  unfold gW at hc ⊢
  split at hc
  · rename_i h1
    rw [if_pos h1]
    split at hc
    · rename_i h2;rw [if_pos h2];exact aF0 h hc
    · exact absurd hc (by decide)
  · rename_i h1;exact absurd hc h1
theorem uR {es:List bT}{s:ByteArray}{e:bT} (h:e∈es) (hn:e.name=s):0≤fC (dG s) es:=by
  unfold fC
  cases hf:es.findIdx? (dG s) with
  | some i=>simp only;omega
  | none=>
    have:=List.findIdx?_eq_none_iff.1 hf e h
    simp [hn] at this
theorem aEz {α:Type}{xs:List α}{i j:Nat}{x:α} (h:xs[i]? =some x) (hne:i≠j):x∈xs.eraseIdx j:=by
  by_cases hlt:i<j
  · exact List.mem_of_getElem? (i:=i) (by rw [List.getElem?_eraseIdx_of_lt hlt];exact h)
  · exact List.mem_of_getElem? (i:=i - 1) (by rw [List.getElem?_eraseIdx_of_ge (by omega),show i - 1+1=i by omega];exact h)
theorem yG {f : DFs} (h : Jf f) {d t : Int} {s : ByteArray} {i k : Nat} (hd : bY f.inodes.length d) (ht : bY f.inodes.length t) (hi : fC (dG s) (aH f.inodes d) = (i : Int)) (hk : k < (aH f.inodes t).length)
    (hne:eV (aH f.inodes t) k≠eV (aH f.inodes d) i) (h0:(aH f.inodes (eV (aH f.inodes t) k)).length=0):0≤fC (dG s) (aH (iZ f t k).inodes d):=by
  have hr:=gM (dG s) (aH f.inodes d)
  obtain⟨e,he⟩:=aJ (xs:=aH f.inodes d) (j:=i) (by omega)
  have hen:e.name=s:=by
    unfold fC at hi
    cases hf:(aH f.inodes d).findIdx? (dG s) with
    | none=>rw [hf] at hi;simp only at hi;omega
    | some q=>
      rw [hf] at hi
      obtain rfl:q=i:=by simp only at hi;omega
      obtain⟨h1,h2, -⟩:=List.findIdx?_eq_some_iff_getElem.1 hf
      rw [List.getElem?_eq_getElem h1] at he
      obtain rfl:=Option.some.inj he
      exact of_decide_eq_true h2
  have hp:=pP h.toJ0 hk
  have hdo:d.toNat≠(eV (aH f.inodes t) k).toNat:=fun e2=>by
    have:d=eV (aH f.inodes t) k:=by have:=hd.1;have:=hp.1;omega
    rw [←this] at h0
    have:=(List.getElem?_eq_some_iff.1 he).1
    omega
  rw [aCa (by have:=ht.1;have:=ht.2;omega) hdo]
  split
  · rename_i hdt
    obtain rfl:d=t:=by have:=hd.1;have:=ht.1;omega
    refine uR (aEz he fun e2=> ?_) hen
    subst e2
    exact hne rfl
  · exact uR (List.mem_of_getElem? he) hen
theorem aBt (xs:List aF): -1≤cY xs∧cY xs≤(xs.length:Int):=by
  unfold cY
  cases hf:xs.findIdx? (fun x=>decide (x.kind=0)) with
  | none=>simp only;split <;> omega
  | some i=>have:=(List.findIdx?_eq_some_iff_getElem.1 hf).1;simp only;omega
theorem aEj {xs:List aF} (h:cY xs=(xs.length:Int)) (h10:xs.length≤10):xs.length<10:=by
  unfold cY at h
  cases hf:xs.findIdx? (fun x=>decide (x.kind=0)) with
  | none=>rw [hf] at h;simp only at h;split at h <;> omega
  | some i=>rw [hf] at h;have:=(List.findIdx?_eq_some_iff_getElem.1 hf).1;simp only at h;omega
theorem aE5 {xs:List aF} (h:0≤cY xs):bC xs (cY xs)=0:=by
  unfold cY at h ⊢
  cases hf:xs.findIdx? (fun x=>decide (x.kind=0)) with
  | none=>
    simp only
    split
    · rename_i h1;rw [hf,if_pos h1] at h;exact absurd h (by decide)
    · exact oZ (Int.le_refl _)
  | some i=>
    obtain⟨h1,h2, -⟩:=List.findIdx?_eq_some_iff_getElem.1 hf
    simp only
    rw [cZ (List.getElem?_eq_getElem h1) rfl]
    exact of_decide_eq_true h2
theorem aEu {f:DFs}{s:ByteArray} (h:(aQ f s).2.2=0):bC f.inodes (aQ f s).1=2:=by
  by_cases h1:kX s=0
  · by_cases h2 : (wkC f.inodes 0 (gL s)).2 = 0
    · by_cases h3 : bC f.inodes (wkC f.inodes 0 (gL s)).1 = 2
      · rw [aAl h1 h2 h3];exact h3
      · rw [zX h1 h2 h3] at h;exact absurd h (by decide)
    · rw [zH h1 h2] at h;exact absurd h h2
  · rw [zI h1] at h;exact absurd h h1
theorem aFc {xs:List aF}{y:aF}{a:Int} (h:a.toNat<xs.length):aH (xs++ [y]) a=aH xs a:=by
  unfold aH
  rw [List.getElem?_append_left h]
theorem aMf {f : DFs} (hj : Jf f) {p : ByteArray} {k : Int} {xs : List aF} (hk : 1 ≤ k ∧ k ≤ 2) (hc : (aQ f p).2.2 = 0) (hl : fC (dG (aQ f p).2.1) (aH f.inodes (aQ f p).1) < 0) (h6 : (aH f.inodes (aQ f p).1).length < 6) (hb : 0 ≤ cY f.inodes)
    (hxs:(¬cY f.inodes=(f.inodes.length:Int)∧xs=f.inodes)∨(cY f.inodes=(f.inodes.length:Int)∧xs=f.inodes++ [⟨0,0,0,[],[]⟩])):
    J0 ⟨xs.set (cY f.inodes).toNat ⟨k,0,0,[],[]⟩,f.data⟩∧Jf (nU ⟨xs.set (cY f.inodes).toNat ⟨k,0,0,[],[]⟩,f.data⟩ (aQ f p).1 (aQ f p).2.1 (cY f.inodes))∧
    bY (xs.set (cY f.inodes).toNat ⟨k,0,0,[],[]⟩).length (aQ f p).1∧(aH (xs.set (cY f.inodes).toNat ⟨k,0,0,[],[]⟩) (aQ f p).1).length≤6:=by
  have hp:=lS hj.toJ0 p
  have hr:=aBt f.inodes
  have h10:=hj.n.2
  have ha:(aQ f p).1.toNat<f.inodes.length:=by have:=hp.1;have:=hp.2;omega
  have hne:(aQ f p).1.toNat≠(cY f.inodes).toNat:=fun e=>by
    have h1:=aEu hc
    have h2:=aE5 hb
    rw [show cY f.inodes=(aQ f p).1 by have:=hp.1;omega] at h2
    omega
  have he:aH xs (aQ f p).1=aH f.inodes (aQ f p).1:=by
    rcases hxs with ⟨-,rfl⟩ |⟨-,rfl⟩
    · rfl
    · exact aFc ha
  have hlen:(cY f.inodes)<(xs.length:Int)∧f.inodes.length≤xs.length:=by
    rcases hxs with ⟨h1,rfl⟩ |⟨h1,rfl⟩
    · omega
    · rw [List.length_append];simp only [List.length_cons,List.length_nil];omega
  have hm:=aJ6 hj (xs:=xs) (a:=(aQ f p).1) (b:=cY f.inodes) (k:=k) (s:=(aQ f p).2.1) (by
    rcases hxs with ⟨h1,rfl⟩ |⟨h1,rfl⟩
    · exact .inl rfl
    · exact .inr ⟨aEj h1 h10,rfl⟩) hk ⟨hb,hlen.1⟩ nM (by rw [he,sA hl];decide) (by rw [he];exact h6) hne
  refine⟨hm.1,hm.2,?_,?_⟩
  · rw [List.length_set];exact⟨hp.1,by have:=hp.2;omega⟩
  · rw [qP hne,he];omega
theorem aGg {G:DFs} (h:Jf G) {j:Nat}{y:aF}{e:bT} (hy:G.inodes[j]? =some y) (h5:y.ents.length≤5) (hp:bY G.inodes.length e.ino) (hn:e.name.size≤4):Jf ⟨G.inodes.set j ⟨y.kind,y.links,y.size,y.blocks,gG y.ents e⟩,G.data⟩:=by
  have:=h.get hy
  refine aC6 (xs:=G.inodes) (d:=G.data) h ⟨this.k,this.l,this.z,this.s,this.b,this.bl,by show(gG y.ents e).length≤6;rw [aBv];omega,fun e' he=> ?_⟩ (h.o y (List.mem_of_getElem? hy))
  rcases aB1 he with rfl | he
  · exact⟨⟨hp.1,by have:=hp.2;omega⟩,hn⟩
  · exact this.e e' he
theorem aDv {F:DFs}{d t:Int}{i:Nat} (hd:bY F.inodes.length d) (ht:bY F.inodes.length t) (hi:i<(aH F.inodes d).length):(aH (dH F d ((aH F.inodes d).eraseIdx i)).inodes t).length≤(aH F.inodes t).length∧(t=d→(aH (dH F d ((aH F.inodes d).eraseIdx i)).inodes t).length+1≤(aH F.inodes t).length):=by
  have h1:aH (dH F d ((aH F.inodes d).eraseIdx i)).inodes t=if t.toNat=d.toNat then(aH F.inodes d).eraseIdx i else aH F.inodes t:=sJ (by have:=hd.1;have:=hd.2;omega)
  rw [h1]
  split
  · rename_i h2
    obtain rfl:t=d:=by have:=hd.1;have:=ht.1;omega
    rw [List.length_eraseIdx_of_lt hi]
    omega
  · rename_i h2
    exact⟨Nat.le_refl _,fun e=>absurd (by rw [e]) h2⟩
end Go.Proofs.YtmejbfmhaoilmaaGreat
/- What is proved: a slice of one's own opened up in the middle, and the gap filled; zeros appended; two slices apart. No condition. -/
namespace Go.Proofs.YtmejbfmhaoilmaaGreat
open Go Go.RowKit
set_option linter.unusedVariables false
set_option linter.unusedSimpArgs false
section
variable {P:Program}{T:eX}{o:Oper}{w0:World}{S0:Bs}{l l':List Asn}
end
end Go.Proofs.YtmejbfmhaoilmaaGreat
/- What is proved: what is found below a place within ten steps is what can be reached, in plain Lean. No condition. -/
namespace Go.Proofs.YtmejbfmhaoilmaaGreat
open Go Go.RowKit
set_option linter.unusedVariables false
set_option linter.unusedSimpArgs false
def wi (xs : List aF) (a : Int) : Nat → Int → Bool
  | 0,b=>decide (b=a)
  | n+1,b=>decide (b=a) || (aH xs b).any (fun e=>wi xs a n e.ino)
theorem aDq {xs:List aF}{a b:Int}{n:Nat} (h:b=a):wi xs a n b=true:=by
  cases n <;> simp [wi,h]
theorem aJg {xs:List aF}{a b:Int}{n k:Nat}{e:bT} (hn:0<n) (he:(aH xs b)[k]? =some e) (h:wi xs a (n - 1) e.ino=true):wi xs a n b=true:=by
  obtain⟨m,rfl⟩:∃m,n=m+1:=⟨n - 1,by omega⟩
  simp only [wi,Bool.or_eq_true]
  exact .inr (List.any_eq_true.2 ⟨e,List.mem_of_getElem? he,by simpa using h⟩)
theorem yA {xs:List aF}{a b:Int}{n:Nat} (h:¬b=a) (hk:n=0∨∀(j:Nat) (e:bT),(aH xs b)[j]? =some e→wi xs a (n - 1) e.ino=false):wi xs a n b=false:=by
  cases n with
  | zero=>simp [wi,h]
  | succ m=>
    have hk':=hk.resolve_left (by omega)
    simp only [wi,Bool.or_eq_false_iff,decide_eq_false h,true_and]
    rw [List.any_eq_false]
    intro e he
    obtain⟨j,hj⟩:=List.mem_iff_getElem?.1 he
    have:=hk' j e hj
    simpa using this
end Go.Proofs.YtmejbfmhaoilmaaGreat
/- What is proved: small laws for what draws numbers from bytes. No condition. -/
namespace Go.Proofs.YtmejbfmhaoilmaaGreat
open Go Go.RowKit
theorem jL {x n:Int} (hx:0≤x) (hn:1≤n):0≤Int.tmod x n∧Int.tmod x n<n:=
  ⟨Int.tmod_nonneg _ hx,Int.tmod_lt_of_pos _ (by omega)⟩
theorem aGt {x n:Int} (hx:0≤x) (hn:1≤n):0≤x / n∧x / n≤x:=
  ⟨Int.ediv_nonneg hx (by omega),Int.ediv_le_self _ hx⟩
theorem mJ {α:Type}{K:Kd α}{e by_:Nat}{w:World}{F:Bs}{xs:List α}{A:Option Addr}{c:Nat} (h:(bQ e by_ K).ro w F xs [.slice A xs.length c]):xs.length≤c∧c≤9223372036854775807∧xs.length * by_≤140737488355328:=by
  obtain⟨A',c',hv,h1,h2,h3,_⟩:=aD h
  cases hv
  exact⟨h1,h2,h3⟩
end Go.Proofs.YtmejbfmhaoilmaaGreat
/- What is proved: the names that are drawn have no fault. No condition. -/
namespace Go.Proofs.YtmejbfmhaoilmaaGreat
open Go
theorem aEw:∀s:ByteArray,s∈([⟨#[97]⟩,⟨#[98]⟩,⟨#[99]⟩,⟨#[100]⟩,⟨#[97,98]⟩,⟨#[104,97,108,108]⟩]:List ByteArray)→cK s=0:=by decide
theorem rL:∀s:ByteArray,s∈([⟨#[97]⟩,⟨#[97,98]⟩,⟨#[98]⟩,⟨#[99]⟩,⟨#[104,97,108,108]⟩]:List ByteArray)→s.size≤4:=by decide
theorem yL:∀s:ByteArray,s∈([⟨#[97]⟩,⟨#[97,98]⟩,⟨#[98]⟩,⟨#[99]⟩,⟨#[104,97,108,108]⟩]:List ByteArray)→s.size≤140737488351232:=by decide
theorem gT:∀s:ByteArray,s∈([⟨#[47,97]⟩,⟨#[47,98]⟩,⟨#[47,99]⟩]:List ByteArray)→s.size≤140737488351232:=by decide
end Go.Proofs.YtmejbfmhaoilmaaGreat
/- What is proved: three that act are ready in a region that draws: any may be the next. No condition. -/
namespace Go.Proofs.YtmejbfmhaoilmaaGreat
open Go Go.RowKit
section
variable {N:Nat}{w0:World}{S0:Bs}{F:Act→World→Prop}{T:eX}{l lk:List Asn}{P:Program}{Q:Exit→Act→World→Prop}{K:Act→World→Prop}{ops:Array Oper}{last:Nat}
end
end Go.Proofs.YtmejbfmhaoilmaaGreat
/- What is proved: an element of a row of one's own, a struct, is read whole. No condition. -/
namespace Go.Proofs.YtmejbfmhaoilmaaGreat
open Go Go.RowKit
set_option linter.unusedVariables false
section
variable {w0:World}{S0:Bs}{l l':List Asn}
end
end Go.Proofs.YtmejbfmhaoilmaaGreat
/- What is proved: an inode read back from its words, in plain Lean. No condition. -/
namespace Go.Proofs.YtmejbfmhaoilmaaGreat
open Go Go.RowKit
set_option linter.unusedVariables false
set_option linter.unusedSimpArgs false
end Go.Proofs.YtmejbfmhaoilmaaGreat
/- What is proved: how long what is packed gets, of inodes that may be faulty; packed and unpacked again. Plain Lean. No condition. -/
namespace Go.Proofs.YtmejbfmhaoilmaaGreat
open Go Go.RowKit
set_option linter.unusedVariables false
set_option linter.unusedSimpArgs false
end Go.Proofs.YtmejbfmhaoilmaaGreat
/- What is proved: small laws for drawn inodes. No condition. -/
namespace Go.Proofs.YtmejbfmhaoilmaaGreat
open Go
theorem oG {xs:List aF}{x:aF} (h:bJ xs=0) (hx:cL x=0) (hl:(xs.length:Int)≤9):bJ (xs++ [x])=0:=by
  refine iD (by simp only [List.length_append,List.length_cons,List.length_nil];omega) fun j y _ hy=> ?_
  have hm:=List.mem_of_getElem? hy
  rcases List.mem_append.1 hm with hm | hm
  · exact dI h y hm
  · obtain rfl:=List.mem_singleton.1 hm;exact hx
theorem aJp {bs:List Int}{j:Nat}{v:Int} (h:∀b,b∈bs→0≤b∧b≤19) (hv:0≤v∧v≤19):∀b,b∈bs.set j v→0≤b∧b≤19:=fun b hb=>by
  rcases List.mem_or_eq_of_mem_set hb with hb | rfl
  · exact h b hb
  · exact hv
end Go.Proofs.YtmejbfmhaoilmaaGreat
/- What is proved: what a function owns, from some point on only read: a new base of its frame. No condition. -/
namespace Go.Proofs.YtmejbfmhaoilmaaGreat
open Go Go.RowKit
set_option linter.unusedVariables false
section
variable {N:Nat}{w0:World}{S0:Bs}{F:Act→World→Prop}{T:eX}{l:List Asn}{P:Program}
theorem Y.ax {α : Type} {K : Kd α} {x : α} {cs : List Value} {l' : List Asn} (h : fK l (aG K x cs) l')
    (k:∀(w1:World) (S1:Bs),(∀{β:Type}{J:Kd β}{y:β}{ds:List Value},J.ro w0 (FF w0 S0) y ds→J.ro w1 (FF w1 S1) y ds)→K.ro w1 (FF w1 S1) x cs→(∀l w,WS w1 S1 l w→WS w0 S0 l w)→Y N w1 S1 F T l'):Y N w0 S0 F T l:=by
  intro a w h1 h2 h3 h4
  obtain⟨S,hs,hb,hf⟩:=h4.take h
  obtain⟨A,B,hc,hl,iA,iB,d⟩:=hs
  have hc':=K.own_lt (show K.own w A x cs from hc)
  have hsub:∀b,FF w0 S0 b→FF w B b∧w.heap[b]? =w0.heap[b]? :=fun b hF=>
    ⟨⟨Nat.lt_of_lt_of_le hF.1 hf.size,fun hB=>(hb b (iB b hB)).elim hF.2 (fun h=>absurd hF.1 (by omega))⟩,hf.block b hF.1 hF.2⟩
  refine k w B (fun {β} {J} {y} {ds} hr => J.ro_up (J.ro_loc hr fun b hF => (hsub b hF).2) fun b hF => (hsub b hF).1)
    (K.ro_up (K.own_ro hc') fun b hA=>⟨hA.2,fun hB=>d b hA.1 hB⟩) (fun m w' hw=> ?_) a w h1 h2 h3 ⟨B,hl,fun b hB=> .inl hB,Fr.refl _ _⟩
  obtain⟨S2,s1,s2,s3⟩:=hw
  exact⟨S2,s1,fun b hS=>(s2 b hS).elim (fun hB=>hb b (iB b hB)) (fun hle=> .inr (Nat.le_trans hf.size hle)),hf.trans s3 fun b hB=>hb b (iB b hB)⟩
theorem Y.aw {w1:World}{S1:Bs}{fn:Func}{R:Value→List Asn→Prop} (hup:∀l w,WS w1 S1 l w→WS w0 S0 l w) (k:Y N w1 S1 (bodyPost P fn (aI w1 S1 R) .ret) T l):Y N w1 S1 (bodyPost P fn (aI w0 S0 R) .ret) T l:=fun a w h1 h2 h3 h4=>by
  obtain⟨hd,v,hr,r,m,he,hR,hw⟩:=k a w h1 h2 h3 h4
  exact⟨hd,v,hr,r,m,he,hR,hup _ _ hw⟩
end
end Go.Proofs.YtmejbfmhaoilmaaGreat
/- What is proved: values that are one's own and only read (a kind of their own): made, set aside as a new base of the frame, given back. No condition. -/
namespace Go.Proofs.YtmejbfmhaoilmaaGreat
open Go Go.RowKit
set_option linter.unusedVariables false
@[reducible] def lV {α : Type} (K : Kd α) : Kd α where
  sz:=K.sz
  pos:=K.pos
  ro:=K.ro
  own w S x cs:=K.ro w (fun b=>S b∧b<w.heap.size) x cs
  ro_len h:=K.ro_len h
  ro_one h:=K.ro_one h
  ro_up h:=K.ro_up h
  ro_loc h:=K.ro_loc h
  own_ro h:=K.ro_up h fun _ hb=>hb.1
  own_up h hs:=K.ro_up h fun b hb=>⟨hs b hb.1,hb.2⟩
  own_loc:=by
    intro w w' S x cs h hs
    refine K.ro_up (K.ro_loc h fun b hb=>hs b hb.1) fun b hb=>⟨hb.1,?_⟩
    have h1:=hs b hb.1
    rw [Array.getElem?_eq_getElem hb.2] at h1
    exact(Array.getElem?_eq_some_iff.1 h1).1
  own_lt h:=K.ro_up h fun _ hb=>⟨hb,hb.2⟩
theorem jV {α:Type}{K:Kd α}{x:α}{cs:List Value} (w:World) (S:Bs) (h:cJ [aG K x cs] w S):(aG (lV K) x cs).p w S:=
  K.own_ro (K.own_lt (show K.own w S x cs from h.head (c:=aG K x cs)))
theorem zK {α : Type} {K : Kd α} {e by_ : Nat} {xs : List α} {A A' : Option Addr} {c a b : Nat} (hA : A' = (if c = a then A else Option.map (fun z => Addr.add z (a * K.sz)) A)) (h1 : a ≤ b) (h2 : b ≤ xs.length) (w : World) (S : Bs)
    (h:cJ [aG (bQ e by_ K) xs [.slice A xs.length c]] w S):(aG (lV (bQ e by_ K)) (iQ xs a b) [.slice A' (iQ xs a b).length (c - a)]).p w S:=
  nD (e:=e) (by_:=by_) (a:=a) (b:=b) hA (jV w S h) h1 h2
section
variable {N:Nat}{w0:World}{S0:Bs}{F:Act→World→Prop}{T:eX}{l:List Asn}{P:Program}
theorem WS.u {α:Type}{K:Kd α}{e by_:Nat}{xs:List α}{v:Value}{l':List Asn} (ht:fK l (aG (lV (bQ e by_ K)) xs [v]) l'):∀w,WS w0 S0 l w→∃A c,v= .slice A xs.length c∧xs.length≤c∧c≤9223372036854775807∧xs.length * by_≤140737488355328:=fun w hw=>by
  obtain⟨S,hs,_,_⟩:=hw.take ht
  have h:(bQ e by_ K).ro w (fun b=>S b∧b<w.heap.size) xs [v]:=hs.head (c:=aG (lV (bQ e by_ K)) xs [v])
  obtain⟨A,c,h1,h2,h3,h4,_⟩:=aD h
  exact⟨A,c,h1,h2,h3,h4⟩
theorem Y.a2 {α : Type} {K : Kd α} {x : α} {cs : List Value} {l' : List Asn} (h : fK l (aG (lV K) x cs) l')
    (k:∀(w1:World) (S1:Bs),(∀{β:Type}{J:Kd β}{y:β}{ds:List Value},J.ro w0 (FF w0 S0) y ds→J.ro w1 (FF w1 S1) y ds)→K.ro w1 (FF w1 S1) x cs→(∀l w,WS w1 S1 l w→WS w0 S0 l w)→Y N w1 S1 F T l'):Y N w0 S0 F T l:=Y.ax h k
theorem Y.a0 {α : Type} {K : Kd α} {x : α} {cs : List Value} {l' : List Asn} (h : fK l (aG (lV K) x cs) l')
    (k:∀(w1:World) (S1:Bs),(∀{β:Type}{J:Kd β}{y:β}{ds:List Value},J.ro w0 (FF w0 S0) y ds→J.ro w1 (FF w1 S1) y ds)→K.ro w1 (FF w1 S1) x cs→(∀l w,WS w1 S1 l w→WS w0 S0 (aG (lV K) x cs :: l) w)→Y N w1 S1 F T l'):Y N w0 S0 F T l:=by
  intro a w h1 h2 h3 h4
  obtain⟨S,hs,hb,hf⟩:=h4.take h
  obtain⟨A,B,hc,hl,iA,iB,d⟩:=hs
  have hc':K.ro w (fun b=>A b∧b<w.heap.size) x cs:=hc
  have hsub:∀b,FF w0 S0 b→FF w B b∧w.heap[b]? =w0.heap[b]? :=fun b hF=>
    ⟨⟨Nat.lt_of_lt_of_le hF.1 hf.size,fun hB=>(hb b (iB b hB)).elim hF.2 (fun h=>absurd hF.1 (by omega))⟩,hf.block b hF.1 hF.2⟩
  refine k w B (fun {β} {J} {y} {ds} hr => J.ro_up (J.ro_loc hr fun b hF => (hsub b hF).2) fun b hF => (hsub b hF).1)
    (K.ro_up hc' fun b hA=>⟨hA.2,fun hB=>d b hA.1 hB⟩) (fun m w' hw=> ?_) a w h1 h2 h3 ⟨B,hl,fun b hB=> .inl hB,Fr.refl _ _⟩
  obtain⟨S2,s1,s2,s3⟩:=hw
  refine⟨fun b=>(A b∧b<w.heap.size)∨S2 b,⟨fun b=>A b∧b<w.heap.size,S2,?_,s1,fun b h=> .inl h,fun b h=> .inr h,fun b hA hS=> ?_⟩,fun b hS=> ?_,hf.trans s3 fun b hB=>hb b (iB b hB)⟩
  · show K.ro w' (fun b => (A b ∧ b < w.heap.size) ∧ b < w'.heap.size) x cs
    exact K.ro_up (K.ro_loc hc' fun b hb=>s3.block b hb.2 (fun hB=>d b hb.1 hB)) fun b hb=>⟨hb,Nat.lt_of_lt_of_le hb.2 s3.size⟩
  · exact(s2 b hS).elim (fun hB=>d b hA.1 hB) (fun hle=>by have:=hA.2;omega)
  · exact hS.elim (fun hA=>hb b (iA b hA.1)) (fun hS=>(s2 b hS).elim (fun hB=>hb b (iB b hB)) (fun hle=> .inr (Nat.le_trans hf.size hle)))
theorem Y.a4 {w1:World}{S1:Bs}{fn:Func}{R:Value→List Asn→Prop} (m:List Asn) (hup:∀l w,WS w1 S1 l w→WS w0 S0 (m++l) w) (k:Y N w1 S1 (bodyPost P fn (aI w1 S1 (fun r l=>R r (m++l))) .ret) T l):Y N w1 S1 (bodyPost P fn (aI w0 S0 R) .ret) T l:=fun a w h1 h2 h3 h4=>by
  obtain⟨hd,v,hr,r,q,he,hR,hw⟩:=k a w h1 h2 h3 h4
  exact⟨hd,v,hr,r,m++q,he,hR,hup _ _ hw⟩
end
end Go.Proofs.YtmejbfmhaoilmaaGreat
/- What is proved: results of which one lies in memory. No condition. -/
namespace Go.Proofs.YtmejbfmhaoilmaaGreat
open Go Go.RowKit
set_option linter.unusedVariables false
set_option linter.unusedSimpArgs false
section
variable {w0:World}{S0:Bs}{T:eX}{l:List Asn}{P:Program}
theorem aJj {fn : Func} {s ty u : Nat} {ad : Addr} {cs : List Value} {v : Value} (hr : fn.results = #[.cell s ty, .tmp u]) (h : Get T (s, .pointer (some ad))) (hg : eN P ty true) (hi : (P.info? ty).map (·.size) = some cs.length)
    (hc:∀w,WS w0 S0 l w→∀(i:Nat) (u:Value),cs[i]? =some u→w.cell? (ad.add i)=some u) (k:Get T (u,v)):∀(a:Act) (w:World),Holds T a→WS w0 S0 l w→(results fn a.tmps).run P w= .ok (.tuple #[.agg cs.toArray,v]) w:=fun a w ha hw=>by
  obtain⟨d,ht,hd⟩:=hg.ex
  have hag:=nN ht w
  rw [hd] at hag
  obtain⟨i0,h1,h2⟩:=Option.map_eq_some_iff.1 hi
  have hl:=run_loadCells_list (P:=P) w ad cs (hc w hw)
  have e1:=kU h ha
  have e2:=kU k ha
  simp only [Array.getD_eq_getD_getElem?] at e1 e2
  simp [results,hr,e1,e2,asAddr,loadVar,Sem.run_bind,hag,sizeOf,typeInfo,h1,h2,hl]
theorem wC {fn : Func} {s ty u0 u1 u2 : Nat} {ad : Addr} {cs : List Value} {v0 v1 v2 : Value} (hr : fn.results = #[.cell s ty, .tmp u0, .tmp u1, .tmp u2]) (h : Get T (s, .pointer (some ad))) (hg : eN P ty true) (hi : (P.info? ty).map (·.size) = some cs.length)
    (hc:∀w,WS w0 S0 l w→∀(i:Nat) (u:Value),cs[i]? =some u→w.cell? (ad.add i)=some u) (k0:Get T (u0,v0)) (k1:Get T (u1,v1)) (k2:Get T (u2,v2)):∀(a:Act) (w:World),Holds T a→WS w0 S0 l w→(results fn a.tmps).run P w= .ok (.tuple #[.agg cs.toArray,v0,v1,v2]) w:=fun a w ha hw=>by
  obtain⟨d,ht,hd⟩:=hg.ex
  have hag:=nN ht w
  rw [hd] at hag
  obtain⟨i0,h1,h2⟩:=Option.map_eq_some_iff.1 hi
  have hl:=run_loadCells_list (P:=P) w ad cs (hc w hw)
  have e1:=kU h ha
  have f0:=kU k0 ha
  have f1:=kU k1 ha
  have f2:=kU k2 ha
  simp only [Array.getD_eq_getD_getElem?] at e1 f0 f1 f2
  simp [results,hr,e1,f0,f1,f2,asAddr,loadVar,Sem.run_bind,hag,sizeOf,typeInfo,h1,h2,hl]
end
end Go.Proofs.YtmejbfmhaoilmaaGreat
/- What is proved: what can be reached is there; what is read in two parts is what is read in one; plain Lean. No condition. -/
namespace Go.Proofs.YtmejbfmhaoilmaaGreat
open Go Go.RowKit
set_option linter.unusedVariables false
set_option linter.unusedSimpArgs false
end Go.Proofs.YtmejbfmhaoilmaaGreat
/- What is proved: a file whose bytes are set anew leaves a file system whole, and no other file turns; plain Lean. No condition. -/
namespace Go.Proofs.YtmejbfmhaoilmaaGreat
open Go Go.RowKit
set_option linter.unusedVariables false
set_option linter.unusedSimpArgs false
structure aG5 (xs : List aF) : Prop where
  one:∀(i:Nat) x,xs[i]? =some x→x.blocks.Nodup
  two:∀(i k:Nat) x y b,xs[i]? =some x→xs[k]? =some y→b∈x.blocks→b∈y.blocks→i=k
theorem xZ {xs:List aF}:(eW xs).Nodup↔aG5 xs:=by
  unfold eW List.Nodup
  rw [List.pairwise_flatten,List.pairwise_iff_getElem]
  constructor
  · rintro ⟨h1, h2⟩
    have h3:∀(i k:Nat) x y b,i<k→xs[i]? =some x→xs[k]? =some y→b∈x.blocks→b∈y.blocks→False:=fun i k x y b hik hx hy hb hb2=>by
      obtain⟨li,ei⟩:=List.getElem?_eq_some_iff.1 hx
      obtain⟨lk,ek⟩:=List.getElem?_eq_some_iff.1 hy
      have:=h2 i k (by rw [List.length_map];exact li) (by rw [List.length_map];exact lk) hik b (by rw [List.getElem_map,ei];exact hb) b (by rw [List.getElem_map,ek];exact hb2)
      exact this rfl
    refine⟨fun i x hx=>h1 _ (List.mem_map.2 ⟨x,List.mem_of_getElem? hx,rfl⟩),fun i k x y b hx hy hb hb2=> ?_⟩
    rcases Nat.lt_trichotomy i k with h | h | h
    · exact(h3 i k x y b h hx hy hb hb2).elim
    · exact h
    · exact(h3 k i y x b h hy hx hb2 hb).elim
  · intro h
    refine⟨fun l hl=> ?_,fun i k hi hk hik b hb c hc e=> ?_⟩
    · obtain ⟨x, hx, rfl⟩ := List.mem_map.1 hl
      obtain⟨i,hi⟩:=List.mem_iff_getElem?.1 hx
      exact h.one i x hi
    · subst e
      rw [List.length_map] at hi hk
      rw [List.getElem_map] at hb hc
      have:=h.two i k _ _ b (List.getElem?_eq_getElem hi) (List.getElem?_eq_getElem hk) hb hc
      omega
theorem nR {xs:List aF}{b:Int}:b∈eW xs↔∃(i:Nat) (x:aF),xs[i]? =some x∧b∈x.blocks:=by
  unfold eW
  rw [List.mem_flatten]
  constructor
  · rintro ⟨l, hl, hb⟩
    obtain⟨x,hx,rfl⟩:=List.mem_map.1 hl
    obtain⟨i,hi⟩:=List.mem_iff_getElem?.1 hx
    exact⟨i,x,hi,hb⟩
  · rintro ⟨i, x, hx, hb⟩
    exact⟨_,List.mem_map.2 ⟨x,List.mem_of_getElem? hx,rfl⟩,hb⟩
theorem iV {α:Type}{l:List α}{j k:Nat}{v:α} (hj:j<l.length):(l.set j v)[k]? =if j=k then some v else l[k]? :=by
  by_cases h:j=k
  · subst h;simp [hj]
  · simp [h]
theorem yJ {α:Type}{l:List α}{i k:Nat}{b:α} (h:l.Nodup) (hi:l[i]? =some b) (hk:l[k]? =some b):i=k:=
  (List.getElem?_inj (List.getElem?_eq_some_iff.1 hi).1 h).1 (hi.trans hk.symm)
theorem rZ {x : aF} {L : List Int} {j : Nat} : ∀ q, (∀ b, b ∈ x.blocks → b.toNat ≠ j) → (iE x L q)[j]? = L[j]?
  | 0,_=>rfl
  | q+1,h=>by
    simp only [iE]
    cases hb:x.blocks[q]? with
    | none=>exact rZ q h
    | some b=>dsimp only;rw [List.getElem?_set_ne (h b (List.mem_of_getElem? hb))];exact rZ q h
theorem xB {x : aF} {L : List Int} {i : Nat} {b : Int} (hn : x.blocks.Nodup) (hr : ∀ b, b ∈ x.blocks → 0 ≤ b ∧ b ≤ 19) (hL : L.length = 20) (hb : x.blocks[i]? = some b) : ∀ q, i < q → (iE x L q)[b.toNat]? = some (eM 8 (x.size - ((i * 8 : Nat) : Int)))
  | 0,h=>by omega
  | q+1,h=>by
    simp only [iE]
    have hbr:=hr b (List.mem_of_getElem? hb)
    by_cases hq:q=i
    · subst hq
      rw [hb]
      dsimp only
      rw [iV (by rw [eC];omega),if_pos rfl]
    · cases hc:x.blocks[q]? with
      | none=>exact xB hn hr hL hb q (by omega)
      | some c=>
        dsimp only
        have hcr:=hr c (List.mem_of_getElem? hc)
        have hne:c≠b:=fun e=>by
          subst e
          exact hq (yJ hn hc hb)
        rw [List.getElem?_set_ne (by omega)]
        exact xB hn hr hL hb q (by omega)
theorem nP {xs : List aF} {j : Nat} (hr : ∀ (i : Nat) x, xs[i]? = some x → ∀ b, b ∈ x.blocks → 0 ≤ b ∧ b ≤ 19) (h : ∀ (i : Nat) x b, xs[i]? = some x → b ∈ x.blocks → b.toNat ≠ j) (hj : j < 20) : ∀ k, (dK xs k)[j]? = some 0
  | 0=>by
    show(List.replicate 20 (0:Int))[j]? =some 0
    rw [List.getElem?_replicate,if_pos hj]
  | k+1=>by
    simp only [dK]
    cases hx:xs[k]? with
    | none=>exact nP hr h hj k
    | some x=>dsimp only;rw [rZ _ (fun b hb=>h k x b hx hb)];exact nP hr h hj k
theorem pI {xs : List aF} {i q : Nat} {x : aF} {b : Int} (ha : aG5 xs) (hr : ∀ (i : Nat) x, xs[i]? = some x → ∀ b, b ∈ x.blocks → 0 ≤ b ∧ b ≤ 19) (hx : xs[i]? = some x) (hb : x.blocks[q]? = some b) : ∀ k, i < k → (dK xs k)[b.toNat]? = some (eM 8 (x.size - ((q * 8 : Nat) : Int)))
  | 0,h=>by omega
  | k+1,h=>by
    simp only [dK]
    by_cases hk:k=i
    · subst hk
      rw [hx]
      dsimp only
      exact xB (ha.one _ x hx) (hr _ x hx) (cE k) hb _ (List.getElem?_eq_some_iff.1 hb).1
    · cases hy:xs[k]? with
      | none=>exact pI ha hr hx hb k (by omega)
      | some y=>
        dsimp only
        have hm:=List.mem_of_getElem? hb
        rw [rZ _ (fun c hc e=>by
          have h1:=hr k y hy c hc
          have h2:=hr i x hx b hm
          have h3:c=b:=by omega
          subst h3
          exact hk (ha.two k i y x c hy hx hc hm))]
        exact pI ha hr hx hb k (by omega)
theorem uB {data : List (List UInt8)} {bs : List Int} {j : Nat} (h : ∀ b, b ∈ bs → b.toNat ≠ j) : ∀ k, (lQ data bs k)[j]? = data[j]?
  | 0=>rfl
  | k+1=>by
    simp only [lQ]
    cases hb:bs[k]? with
    | none=>exact uB h k
    | some b=>dsimp only;rw [List.getElem?_set_ne (h b (List.mem_of_getElem? hb))];exact uB h k
theorem vS {data : List (List UInt8)} {bs : List Int} {i : Nat} {b : Int} (hb : bs[i]? = some b) (hl : b.toNat < data.length) : ∀ k, i < k → (lQ data bs k)[b.toNat]? = some []
  | 0,h=>by omega
  | k+1,h=>by
    simp only [lQ]
    by_cases hk:k=i
    · subst hk;rw [hb];dsimp only;rw [iV (by rw [iH];exact hl),if_pos rfl]
    · cases hc:bs[k]? with
      | none=>exact vS hb hl k (by omega)
      | some c=>
        dsimp only
        by_cases e:c.toNat=b.toNat
        · rw [iV (by rw [iH];omega),if_pos e]
        · rw [List.getElem?_set_ne e];exact vS hb hl k (by omega)
theorem tH {data : List (List UInt8)} {bs : List Int} {L : List UInt8} {j : Nat} (h : ∀ b, b ∈ bs → b.toNat ≠ j) : ∀ k, (oC data bs L k)[j]? = data[j]?
  | 0=>rfl
  | k+1=>by
    simp only [oC]
    cases hb:bs[k]? with
    | none=>exact tH h k
    | some b=>dsimp only;rw [List.getElem?_set_ne (h b (List.mem_of_getElem? hb))];exact tH h k
theorem zR {data : List (List UInt8)} {bs : List Int} {L : List UInt8} {i : Nat} {b : Int} (hn : bs.Nodup) (hr : ∀ b, b ∈ bs → 0 ≤ b) (hb : bs[i]? = some b) (hl : b.toNat < data.length) : ∀ k, i < k → (oC data bs L k)[b.toNat]? = some (mH L i)
  | 0,h=>by omega
  | k+1,h=>by
    simp only [oC]
    by_cases hk:k=i
    · subst hk;rw [hb];dsimp only;rw [iV (by rw [nV];exact hl),if_pos rfl]
    · cases hc:bs[k]? with
      | none=>exact zR hn hr hb hl k (by omega)
      | some c=>
        dsimp only
        have hne:c≠b:=fun e=>by
          subst e
          exact hk (yJ hn hc hb)
        have h5:=hr b (List.mem_of_getElem? hb)
        have h6:=hr c (List.mem_of_getElem? hc)
        rw [List.getElem?_set_ne (by omega)]
        exact zR hn hr hb hl k (by omega)
theorem yU {L:List UInt8}{k:Nat}:(mH L k).length=min ((k+1) * 8) L.length - k * 8:=by
  unfold mH iQ
  rw [List.length_drop,List.length_take]
  omega
theorem aGu {L : List UInt8} : ∀ m, ((List.range m).map (mH L)).flatten = L.take (m * 8)
  | 0=>by simp
  | m+1=>by
    rw [List.range_succ,List.map_append,List.flatten_append,aGu m]
    simp only [List.map_cons,List.map_nil,List.flatten_cons,List.flatten_nil,List.append_nil]
    unfold mH iQ
    by_cases h:(m+1) * 8≤L.length
    · rw [Nat.min_eq_left h]
      have:=List.take_append_drop (m * 8) (L.take ((m+1) * 8))
      rw [List.take_take,Nat.min_eq_left (by omega)] at this
      exact this
    · rw [Nat.min_eq_right (by omega),List.take_length,List.take_append_drop,List.take_of_length_le (by omega)]
theorem aB7 {data:List (List UInt8)}{b:Int}{d:List UInt8} (h:data[b.toNat]? =some d):oT data b=d:=by
  unfold oT;rw [List.getD_eq_getElem?_getD,h];rfl
theorem aJh {x:aF} (h:cL x=0) (hk:x.kind=1):((1≤x.links∧x.links≤60)∧(0≤x.size∧x.size≤32))∧x.ents.length=0:=by
  unfold cL at h
  rw [if_pos (by omega)] at h
  split at h
  · exact absurd h (by decide)
  · rename_i h1
    unfold gE at h
    split at h
    · rename_i h2;exact⟨h2,by omega⟩
    · exact absurd h (by decide)
theorem aCl {xs ys:List aF} (h:∀(i:Nat) y,ys[i]? =some y→∃x,xs[i]? =some x∧y.ents=x.ents) {i:Nat} (hr:oA ys 0 i):oA xs 0 i:=by
  induction hr with
  | refl=>exact .refl
  | step _ hy he ih=>
    obtain⟨x,hx,e⟩:=h _ _ hy
    exact .step ih hx (e ▸ he)
theorem aIl {xs:List aF}{busy:List Int}{n:Int} (h:(hJ xs busy n).code=0):(hJ xs busy n).list.Nodup∧((∀b,b∈(hJ xs busy n).list→¬b∈eW xs∧¬b∈busy)):=by
  unfold hJ at h ⊢
  split
  · rename_i h1
    rw [if_pos h1] at h
    split
    · rename_i h2;rw [if_pos h2] at h;exact absurd h (by decide)
    · refine ⟨(List.Pairwise.imp (fun h => by omega) aAz).sublist (List.take_sublist _ _), fun b hb => ?_⟩
      exact of_decide_eq_true (pV.1 (List.mem_of_mem_take hb)).2
  · rename_i h1;rw [if_neg h1] at h;exact absurd h (by decide)
structure aIs (f g : DFs) (a : Int) (L : List UInt8) : Prop where
  ok:eO g=0
  same:gQ g a=⟨0,L⟩
  rest:∀i:Int,0≤i→i≠a→gQ g i=gQ f i
  len:g.inodes.length=f.inodes.length
theorem aHv {f:DFs}{a:Int}{L:List UInt8}{ws:List Int} (hb:bS f a=0) (hL:L.length≤32) (hl:(ws.length:Int)=((L.length:Int)+7) / 8) (hr:∀b,b∈ws→0≤b∧b≤19) (hn:ws.Nodup) (hu:∀b,b∈ws→¬b∈eW f.inodes):aIs f (kY f a L ws) a L:=by
  obtain⟨hF,hp,hk2,hk0⟩:=nI hb
  obtain⟨ht,hlk,hda⟩:=aMz hF
  have hI:=kC ht
  obtain⟨hrt,hbd,hus,hbe⟩:=qI ht
  obtain⟨-,hpos,hroot,h20⟩:=sL hrt
  have hap:=xZ.1 hus
  have hbl:∀(i:Nat) x,f.inodes[i]? =some x→∀b,b∈x.blocks→0≤b∧b≤19:=fun i x hx=>(jP (dI hI x (List.mem_of_getElem? hx))).2
  unfold bY at hp
  obtain⟨x,hx⟩:∃x,f.inodes[a.toNat]? =some x:=⟨_,List.getElem?_eq_getElem (by omega)⟩
  have hk1:x.kind=1:=by
    rw [cZ hx (by omega)] at hk2 hk0
    have:=zT (dI hI x (List.mem_of_getElem? hx))
    omega
  have hfo:=aJh (dI hI x (List.mem_of_getElem? hx)) hk1
  have hin:(kY f a L ws).inodes=f.inodes.set a.toNat ⟨x.kind,x.links,L.length,ws,x.ents⟩:=by
    show pG f.inodes a L.length ws=_
    unfold pG;rw [hx]
  have hget:∀i:Nat,(kY f a L ws).inodes[i]? =if a.toNat=i then some ⟨x.kind,x.links,L.length,ws,x.ents⟩else f.inodes[i]? :=fun i=>by
    rw [hin,iV (by omega)]
  have hlen:(kY f a L ws).inodes.length=f.inodes.length:=by rw [hin,List.length_set]
  have hback:∀(i:Nat) y,(kY f a L ws).inodes[i]? =some y→∃z,f.inodes[i]? =some z∧y.kind=z.kind∧y.links=z.links∧y.ents=z.ents:=fun i y hy=>by
    rw [hget] at hy
    split at hy
    · rename_i e;subst e;exact⟨x,hx,by obtain rfl:=Option.some.inj hy;exact⟨rfl,rfl,rfl⟩⟩
    · exact⟨y,hy,rfl,rfl,rfl⟩
  have hforth:∀(i:Nat) z,f.inodes[i]? =some z→∃y,(kY f a L ws).inodes[i]? =some y∧z.ents=y.ents:=fun i z hz=>by
    rw [hget]
    split
    · rename_i e;subst e;rw [hx] at hz;obtain rfl:=Option.some.inj hz;exact⟨_,rfl,rfl⟩
    · exact⟨z,hz,rfl⟩
  have hkind:∀i:Int,bC (kY f a L ws).inodes i=bC f.inodes i:=fun i=>by
    unfold bC
    rw [hget]
    split
    · rename_i h; split at h
      · rename_i e;rw [←e,hx];obtain rfl:=Option.some.inj h;rfl
      · rw [h]
    · rename_i h; split at h
      · cases h
      · rw [h]
  have hI':bJ (kY f a L ws).inodes=0:=iD (by rw [hlen];have:=kV hI;omega) fun j y _ hy=>by
    rw [hget] at hy
    split at hy
    · obtain rfl := Option.some.inj hy
      rw [cG (x:=⟨x.kind,x.links,L.length,ws,x.ents⟩) hk1 hfo.2]
      refine cT ⟨hfo.1.1,by dsimp only;omega⟩ hl ?_ hn
      exact nQ fun j b _ hb=>hr b (List.mem_of_getElem? hb)
    · exact dI hI y (List.mem_of_getElem? hy)
  have hap':aG5 (kY f a L ws).inodes:=by
    refine⟨fun i y hy=> ?_,fun i k y z b hy hz h1 h2=> ?_⟩
    · rw [hget] at hy
      split at hy
      · obtain rfl:=Option.some.inj hy;exact hn
      · exact hap.one i y hy
    · rw [hget] at hy hz
      split at hy
      · rename_i ei
        split at hz
        · rename_i ek;omega
        · obtain rfl := Option.some.inj hy
          exact absurd (nR.2 ⟨k,z,hz,h2⟩) (hu b h1)
      · split at hz
        · obtain rfl := Option.some.inj hz
          exact absurd (nR.2 ⟨i,y,hy,h1⟩) (hu b h2)
        · exact hap.two i k y z b hy hz h1 h2
  have hbl':∀(i:Nat) x,(kY f a L ws).inodes[i]? =some x→∀b,b∈x.blocks→0≤b∧b≤19:=fun i x hx=>(jP (dI hI' x (List.mem_of_getElem? hx))).2
  have hba:eE f.inodes a=x.blocks:=lO hx (by omega)
  have hdl:(kY f a L ws).data.length=20:=by show(oC (fW f a) ws L ws.length).length=20;rw [nV,iH];exact h20
  have hdin:∀(q:Nat) b,ws[q]? =some b→(kY f a L ws).data[b.toNat]? =some (mH L q):=fun q b hq=>by
    have h1:=hr b (List.mem_of_getElem? hq)
    exact zR hn (fun b hb=>(hr b hb).1) hq (by rw [iH];omega) _ (List.getElem?_eq_some_iff.1 hq).1
  have hdold:∀b:Int,b∈x.blocks→¬b∈ws→(kY f a L ws).data[b.toNat]? =some []:=fun b hm hw=>by
    have h1:=hbl _ x hx b hm
    obtain⟨q,hq⟩:=List.mem_iff_getElem?.1 hm
    show(oC (fW f a) ws L ws.length)[b.toNat]? =_
    rw [tH (fun c hc e=>by have:=hr c hc;exact hw (by rw [show b=c by omega];exact hc))]
    show(lQ f.data (eE f.inodes a) (eE f.inodes a).length)[b.toNat]? =_
    rw [hba]
    exact vS hq (by omega) _ (List.getElem?_eq_some_iff.1 hq).1
  have hdout:∀b:Int,0≤b→¬b∈x.blocks→¬b∈ws→(kY f a L ws).data[b.toNat]? =f.data[b.toNat]? :=fun b h0 hm hw=>by
    show(oC (fW f a) ws L ws.length)[b.toNat]? =_
    rw [tH (fun c hc e=>by have:=hr c hc;exact hw (by rw [show b=c by omega];exact hc))]
    show(lQ f.data (eE f.inodes a) (eE f.inodes a).length)[b.toNat]? =_
    rw [hba]
    exact uB (fun c hc e=>by have:=hbl _ x hx c hc;exact hm (by rw [show b=c by omega];exact hc)) _
  have hshl:∀q:Nat,q<ws.length→((mH L q).length:Int)=eM 8 ((L.length:Int) - ((q * 8:Nat):Int)):=fun q hq=>by
    rw [yU]
    have:=jC 8 ((L.length:Int) - ((q * 8:Nat):Int))
    omega
  have ht':bK (kY f a L ws)=0:=by
    refine fB (cD hI' (by rw [hlen];omega) (by rw [hkind];exact hroot) hdl) (gP fun j b hj hb8=> ?_) (xZ.2 hap') (jB fun j y _ hy k e he hbad=> ?_)
    · by_cases hw : (j : Int) ∈ ws
      · obtain ⟨q, hq⟩ := List.mem_iff_getElem?.1 hw
        have h1:=hdin q _ hq
        rw [Int.toNat_natCast,hb8] at h1
        obtain rfl:=Option.some.inj h1
        rw [yU];omega
      · by_cases hm : (j : Int) ∈ x.blocks
        · have h1 := hdold _ hm hw
          rw [Int.toNat_natCast,hb8] at h1
          obtain rfl:=Option.some.inj h1
          decide
        · have h1 := hdout (j : Int) (by omega) hm hw
          rw [Int.toNat_natCast,hb8] at h1
          have:=uF ht b (List.mem_of_getElem? h1.symm)
          omega
    · obtain ⟨z, hz, -, -, e2⟩ := hback j y hy
      have h1:=uJ ht j z hz k e (e2 ▸ he)
      exact h1 (by show bC f.inodes e.ino=0;rw [←hkind];exact hbad)
  have hlof:∀i:Int,fM (kY f a L ws).inodes i=fM f.inodes i:=fun i=>by
    have:=qX (gI i) (y:=⟨x.kind,x.links,L.length,ws,x.ents⟩) hx
    rw [←hin] at this
    unfold fM
    have e:gI i ⟨x.kind,x.links,L.length,ws,x.ents⟩=gI i x:=rfl
    omega
  have hlk':kE (kY f a L ws):=fun j y hy=>by
    obtain⟨z,hz,e0,e1,e2⟩:=hback j y hy
    have h1:=hlk j z hz
    refine⟨fun h=>by rw [hlof,e1];exact h1.file (e0 ▸ h),fun h h2=>by rw [hlof];exact h1.root (e0 ▸ h) h2,fun h h2=>by rw [hlof];exact h1.dir (e0 ▸ h) h2,fun h=> ?_⟩
    have h3:=h1.way (e0 ▸ h)
    unfold lW at h3 ⊢
    rw [pV,xI] at h3 ⊢
    rw [hlen]
    exact⟨h3.1,aCl hforth h3.2⟩
  have hda':mF (kY f a L ws):=fun j b hjb=>by
    have hj:j<20:=by have:=(List.getElem?_eq_some_iff.1 hjb).1;rw [hdl] at this;exact this
    show(dK (kY f a L ws).inodes (kY f a L ws).inodes.length)[j]? =_
    by_cases hw:(j:Int)∈ws
    · obtain ⟨q, hq⟩ := List.mem_iff_getElem?.1 hw
      have h1:=hdin q _ hq
      rw [Int.toNat_natCast,hjb] at h1
      obtain rfl:=Option.some.inj h1
      have h2:=pI hap' hbl' (i:=a.toNat) (by rw [hget,if_pos rfl]) hq (kY f a L ws).inodes.length (by rw [hlen];omega)
      rw [Int.toNat_natCast] at h2
      rw [h2,hshl q (List.getElem?_eq_some_iff.1 hq).1]
    · by_cases hm : (j : Int) ∈ x.blocks
      · have h1 := hdold _ hm hw
        rw [Int.toNat_natCast,hjb] at h1
        obtain rfl:=Option.some.inj h1
        rw [nP hbl' (fun i y c hy hc e=> ?_) hj]
        · rfl
        · have h2 := hbl' i y hy c hc
          have h3:c=(j:Int):=by omega
          subst h3
          rw [hget] at hy
          split at hy
          · obtain rfl:=Option.some.inj hy;exact hw hc
          · rename_i hne;exact hne (hap.two _ i x y _ hx hy hm hc)
      · have h1 := hdout (j : Int) (by omega) hm hw
        rw [Int.toNat_natCast,hjb] at h1
        have h2:(dK f.inodes f.inodes.length)[j]? =some (b.length:Int):=hda j b h1.symm
        by_cases hused:(j:Int)∈eW f.inodes
        · obtain ⟨i, y, hy, hc⟩ := nR.1 hused
          obtain⟨q,hq⟩:=List.mem_iff_getElem?.1 hc
          have hne:¬a.toNat=i:=fun e=>by subst e;rw [hx] at hy;obtain rfl:=Option.some.inj hy;exact hm hc
          have hi:=(List.getElem?_eq_some_iff.1 hy).1
          have h3:=pI hap hbl hy hq f.inodes.length hi
          have h4:=pI hap' hbl' (i:=i) (by rw [hget,if_neg hne];exact hy) hq (kY f a L ws).inodes.length (by rw [hlen];exact hi)
          rw [Int.toNat_natCast] at h3 h4
          rw [h4,←h3,h2]
        · have h3 := nP hbl (j := j) (fun i y c hy hc e => hused (nR.2 ⟨i, y, hy, by have := hbl i y hy c hc; rw [show (j : Int) = c by omega]; exact hc⟩)) hj f.inodes.length
          rw [nP hbl' (fun i y c hy hc e=> ?_) hj,←h3,h2]
          have h5:=hbl' i y hy c hc
          have h6:c=(j:Int):=by omega
          subst h6
          rw [hget] at hy
          split at hy
          · obtain rfl:=Option.some.inj hy;exact hw hc
          · exact hused (nR.2 ⟨i,y,hy,hc⟩)
  have hF':=kR ht' hlk' hda'
  have hcode:∀i:Int,bS (kY f a L ws) i=bS f i:=fun i=>by
    unfold bS
    rw [hF',hF,hlen,hkind]
  refine⟨hF',?_,fun i hi hne=> ?_,hlen⟩
  · rw [gK (by rw [hcode]; exact hb)]
    congr 1
    unfold bU hU
    rw [lO (hget a.toNat |>.trans (if_pos rfl)) (by omega)]
    show((ws.take ws.length).map (oT (kY f a L ws).data)).flatten=L
    rw [List.take_length,show ws.map (oT (kY f a L ws).data)=(List.range ws.length).map (mH L) from ?_,aGu,List.take_of_length_le (by omega)]
    apply List.ext_getElem?
    intro q
    rw [List.getElem?_map,List.getElem?_map]
    by_cases hq:q<ws.length
    · rw [List.getElem?_range hq, List.getElem?_eq_getElem hq]
      simp only [Option.map_some]
      rw [aB7 (hdin q _ (List.getElem?_eq_getElem hq))]
    · rw [List.getElem?_eq_none (by omega), List.getElem?_eq_none (by rw [List.length_range]; omega)]
      rfl
  · by_cases hc : bS f i = 0
    · rw [gK (by rw [hcode]; exact hc), gK hc]
      congr 1
      unfold bU hU
      have hbi:eE (kY f a L ws).inodes i=eE f.inodes i:=by
        unfold eE
        rw [hget,if_neg (by omega)]
      rw [hbi]
      congr 1
      apply List.map_congr_left
      intro b hb2
      have hb3:=List.mem_of_mem_take hb2
      have hb4:=kO hI i b hb3
      unfold oT
      rw [List.getD_eq_getElem?_getD,List.getD_eq_getElem?_getD]
      cases hy:f.inodes[i.toNat]? with
      | none=>unfold eE at hb3;rw [hy] at hb3;cases hb3
      | some y=>
        have hb5:b∈y.blocks:=by unfold eE at hb3;rw [hy] at hb3;exact hb3
        rw [hdout b hb4.1 (fun hm=>by have:=hap.two _ _ x y b hx hy hm hb5;omega) (fun hw=>hu b hw (nR.2 ⟨_,y,hy,hb5⟩))]
    · rw [dM (by rw [hcode];exact hc),dM hc,hcode]
theorem aHz {f:DFs}{a:Int}{L:List UInt8}{busy:List Int} (hb:bS f a=0) (hc:(pN f a L busy).code=0):
    L.length≤32∧pN f a L busy=⟨0,kY f a L (dB f L busy).list⟩∧aIs f (kY f a L (dB f L busy).list) a L∧∀b,b∈(dB f L busy).list→¬b∈eW f.inodes∧¬b∈busy:=by
  by_cases h1:(L.length:Int)≤32
  · by_cases h2 : (dB f L busy).code = 0
    · have h3 := aIl h2
      have h4:=vD h2
      exact⟨by omega,uA h1 h2,aHv hb (by omega) h4.2 h4.1 h3.1 (fun b hb=>(h3.2 b hb).1),h3.2⟩
    · rw [tT h1 h2] at hc;exact absurd hc h2
  · rw [qZ h1] at hc;exact absurd hc (by decide)
theorem aG6 {f:DFs}{a n:Int}{busy:List Int} (hc:(gW f a n busy).code=0):
    (0≤a∧a<(f.inodes.length:Int))∧(gW f a n busy).fs.inodes.length=f.inodes.length∧
    (∀x y,f.inodes[a.toNat]? =some x→(gW f a n busy).fs.inodes[a.toNat]? =some y→y.size=n∧∀(k:Nat) b,y.blocks[k]? =some b→¬b∈x.blocks∧¬b∈busy)∧
    (gQ (gW f a n busy).fs a).code=0∧((gQ (gW f a n busy).fs a).bytes.length:Int)=n∧eO (gW f a n busy).fs=0∧
    (zU f a (gQ (gW f a n busy).fs a).bytes busy).code=0∧(zU f a (gQ (gW f a n busy).fs a).bytes busy).fs=(gW f a n busy).fs∧
    (wX f a).code=0∧(wX f a).fs.inodes.length=f.inodes.length∧(∀y,(wX f a).fs.inodes[a.toNat]? =some y→y.kind=0):=by
  by_cases hw:gO f a busy=0
  · have hb := (wOk hw).1
    by_cases h1:0≤n∧n≤32
    · have hp := (nI hb).2.1
      unfold bY at hp
      have hcl:(vC f a n).length=n.toNat:=aBx
      rw [wP hw h1] at hc ⊢
      obtain⟨hl,he,hok,hpk⟩:=aHz hb hc
      have hs:zU f a (vC f a n) busy=pN f a (vC f a n) busy:=oU hw
      have hd:=aAi hb
      have hsame:=hok.same
      rw [he,hsame]
      dsimp only
      rw [hs,he,hd]
      refine⟨by omega,hok.len,fun x y hx hy=> ?_,rfl,by show((vC f a n).length:Int)=n;omega,hok.ok,rfl,rfl,rfl,by simp,fun y hy=> ?_⟩
      · have hw2 : (pG f.inodes a (vC f a n).length (dB f (vC f a n) busy).list)[a.toNat]? = some y := hy
        unfold pG at hw2
        rw [hx] at hw2
        rw [iV (List.getElem?_eq_some_iff.1 hx).1,if_pos rfl] at hw2
        obtain rfl:=Option.some.inj hw2
        exact⟨by show((vC f a n).length:Int)=n;omega,fun k b hk=>⟨fun hm=>(hpk b (List.mem_of_getElem? hk)).1 (nR.2 ⟨_,x,hx,hm⟩),(hpk b (List.mem_of_getElem? hk)).2⟩⟩
      · have h9 : (f.inodes.set a.toNat ⟨0, 0, 0, [], []⟩)[a.toNat]? = some y := hy
        rw [iV (by omega),if_pos rfl] at h9
        obtain rfl:=Option.some.inj h9
        rfl
    · rw [xC hw h1] at hc;exact absurd hc (by decide)
  · rw [tW hw] at hc;exact absurd hc hw
end Go.Proofs.YtmejbfmhaoilmaaGreat

/- What is proved: a name put into a directory, in plain Lean. No condition. -/
import Derived.Test.YtmejbfmhaoilmaaGreatBase1
import Derived.Lib.Overlaps
import Derived.Lib.AppendZerosOnto
import Derived.Test.YtmejbfmhaoilmaaGreatBase0
namespace Go.Proofs.YtmejbfmhaoilmaaGreat
open Go Go.RowKit
set_option linter.unusedVariables false
set_option linter.unusedSimpArgs false
def aEt (es:List bV) (s:ByteArray):Nat:=(es.takeWhile (fun x=>sLt x.name s)).length
theorem pU {s : ByteArray} : ∀ {es : List bV} {k : Nat}, (∀ (j : Nat) e, j < k → es[j]? = some e → sLt e.name s = true) → k ≤ es.length → (k = es.length ∨ ∃ e, es[k]? = some e ∧ sLt e.name s = false) → aEt es s = k
  | [],k,_,h,_=>by simp at h;subst h;rfl
  | e :: es,0,_,_,h=>by
      obtain h |⟨y,hy,hn⟩:=h
      · simp at h
      · simp at hy;subst hy;simp [aEt,hn]
  | e :: es,k+1,ha,hk,h=>by
      have h0:=ha 0 e (by omega) (by simp)
      have ih:=pU (s:=s) (es:=es) (k:=k) (fun j e hj he=>ha (j+1) e (by omega) (by simpa using he)) (by simpa using hk) (h.elim (fun h=> .inl (by simpa using h)) (fun⟨e,he,hn⟩=> .inr ⟨e,by simpa using he,hn⟩))
      unfold aEt at ih ⊢
      simp [List.takeWhile_cons,h0,ih]
abbrev gN (es:List bV) (n:bV):List bV:=es.take (aEt es n.name)++ [n]++es.drop (aEt es n.name)
theorem rW {es:List bV}{n:bV}{k:Nat} (h:aEt es n.name=k):es.take k++ [n]++es.drop k=gN es n:=by subst h;rfl
def qO (f:DFs) (a:Int) (s:ByteArray) (b:Int):Int:=
  if 0≤jJ (aH f.inodes a) s then 7
  else if¬(bZ f.inodes.length b∧bF f.inodes b≠0)then 4
  else if 6≤(aH f.inodes a).length∨(bF f.inodes b=1∧60≤dM f.inodes b)then 2 else 0
def aJw (f:DFs) (a:Int) (s:ByteArray) (b:Int):DFs:=
  if bF f.inodes b=1 then⟨fY (gT f.inodes a (gN (aH f.inodes a) ⟨s,b⟩)) b (dM f.inodes b+1),f.data⟩else dJ f a (gN (aH f.inodes a) ⟨s,b⟩)
def oL (f:DFs) (a:Int) (s:ByteArray) (b:Int):DFs:=if qO f a s b=0 then aJw f a s b else f
theorem sW {f:DFs}{a b:Int}{s:ByteArray} (h:0≤jJ (aH f.inodes a) s):qO f a s b=7:=if_pos h
theorem sV {f:DFs}{a b:Int}{s:ByteArray} (h:¬0≤jJ (aH f.inodes a) s) (h2:¬(bZ f.inodes.length b∧bF f.inodes b≠0)):qO f a s b=4:=by unfold qO;rw [if_neg h,if_pos h2]
theorem sN {f:DFs}{a b:Int}{s:ByteArray} (h:¬0≤jJ (aH f.inodes a) s) (h2:bZ f.inodes.length b∧bF f.inodes b≠0) (h3:6≤(aH f.inodes a).length∨(bF f.inodes b=1∧60≤dM f.inodes b)):qO f a s b=2:=by unfold qO;rw [if_neg h,if_neg (by intro h4;exact h4 h2),if_pos h3]
theorem lL {f:DFs}{a b:Int}{s:ByteArray} (h:¬0≤jJ (aH f.inodes a) s) (h2:bZ f.inodes.length b∧bF f.inodes b≠0) (h3:¬(6≤(aH f.inodes a).length∨(bF f.inodes b=1∧60≤dM f.inodes b))):qO f a s b=0:=by unfold qO;rw [if_neg h,if_neg (by intro h4;exact h4 h2),if_neg h3]
theorem iT {f:DFs}{a b:Int}{s:ByteArray} (h:¬qO f a s b=0):oL f a s b=f:=if_neg h
theorem qP {f:DFs}{a b:Int}{s:ByteArray} (h:qO f a s b=0) (h2:bF f.inodes b=1):oL f a s b=⟨fY (gT f.inodes a (gN (aH f.inodes a) ⟨s,b⟩)) b (dM f.inodes b+1),f.data⟩:=by unfold oL;rw [if_pos h,aJw,if_pos h2]
theorem rF {f:DFs}{a b:Int}{s:ByteArray} (h:qO f a s b=0) (h2:¬bF f.inodes b=1):oL f a s b=dJ f a (gN (aH f.inodes a) ⟨s,b⟩):=by unfold oL;rw [if_pos h,aJw,if_neg h2]
theorem vL {f:DFs}{a:Int}{s:ByteArray}{es:List bV} (ht:bL f=0) (e:aH f.inodes a=es):(0≤fG (dH s) es∧0≤jJ (aH f.inodes a) s)∨(fG (dH s) es<0∧jJ (aH f.inodes a) s<0):=by
  subst e
  by_cases h:fG (dH s) (aH f.inodes a)<0
  · exact .inr ⟨h,by rw [rM h];decide⟩
  · obtain ⟨ix, hix, hil, -⟩ := lU (show ¬ fG (dH s) (aH f.inodes a) = -1 by omega)
    exact .inl ⟨by omega,by rw [tS hix];exact(yG ht hil).1⟩
end Go.Proofs.YtmejbfmhaoilmaaGreat
/- What is proved: where paths lead, in plain Lean. No condition. -/
namespace Go.Proofs.YtmejbfmhaoilmaaGreat
open Go Go.RowKit
set_option linter.unusedVariables false
set_option linter.unusedSimpArgs false
def wkC (xs : List aF) : Int → List ByteArray → Int × Int
  | a,[]=>(a,0)
  | a,n :: ns=>if bF xs a=2 then if jJ (aH xs a) n<0 then(0,4)else wkC xs (jJ (aH xs a) n) ns else(0,9)
theorem aKo {xs:List aF}{a:Int}{ns:List ByteArray}{k:Nat}{n:ByteArray} (h:ns[k]? =some n) (h2:¬bF xs a=2):wkC xs a (ns.drop k)=(0,9):=by
  rw [List.drop_eq_getElem?_toList_append,h]
  show wkC xs a (n :: ns.drop (k+1))=_
  rw [wkC,if_neg h2]
theorem aKc {xs:List aF}{a:Int}{ns:List ByteArray}{k:Nat}{n:ByteArray} (h:ns[k]? =some n) (h2:bF xs a=2) (h3:jJ (aH xs a) n<0):wkC xs a (ns.drop k)=(0,4):=by
  rw [List.drop_eq_getElem?_toList_append,h]
  show wkC xs a (n :: ns.drop (k+1))=_
  rw [wkC,if_pos h2,if_pos h3]
theorem aMb {xs:List aF}{a:Int}{ns:List ByteArray}{k:Nat}{n:ByteArray} (h:ns[k]? =some n) (h2:bF xs a=2) (h3:¬jJ (aH xs a) n<0):wkC xs a (ns.drop k)=wkC xs (jJ (aH xs a) n) (ns.drop (k+1)):=by
  rw [List.drop_eq_getElem?_toList_append,h]
  show wkC xs a (n :: ns.drop (k+1))=_
  rw [wkC,if_pos h2,if_neg h3]
theorem aGf {xs:List aF}{a:Int}{ns:List ByteArray}{k:Nat} (h:ns.length≤k):wkC xs a (ns.drop k)=(a,0):=by rw [List.drop_eq_nil_of_le h];rfl
theorem xG {f : DFs} (ht : bL f = 0) : ∀ (ns : List ByteArray) (a : Int), bZ f.inodes.length a → bZ f.inodes.length (wkC f.inodes a ns).1
  | [],a,h=>h
  | n :: ns,a,h=>by
    have h0:bZ f.inodes.length 0:=⟨Int.le_refl _,by have:=(sJ (rI ht).1).2.1;omega⟩
    unfold wkC
    split
    · split
      · exact h0
      · rename_i h3;exact xG ht ns _ (wK ht h3)
    · exact h0
theorem tU {f:DFs} (ht:bL f=0):bZ f.inodes.length 0:=⟨Int.le_refl _,by have:=(sJ (rI ht).1).2.1;omega⟩
def cT (f:DFs) (s:ByteArray):Int×Int:=if fN s=0 then wkC f.inodes 0 (dV s)else(0,fN s)
theorem aDs {f:DFs}{s:ByteArray} (h:¬fN s=0):cT f s=(0,fN s):=if_neg h
theorem aDe {f:DFs}{s:ByteArray} (h:fN s=0):cT f s=wkC f.inodes 0 (dV s):=if_pos h
theorem aB6 {f:DFs} (ht:bL f=0) (s:ByteArray):bZ f.inodes.length (cT f s).1:=by
  unfold cT
  split
  · exact xG ht _ _ (tU ht)
  · exact tU ht
def aQ (f:DFs) (s:ByteArray):Int×ByteArray×Int:=
  if kZ s=0 then if(wkC f.inodes 0 (gQ s)).2=0 then if bF f.inodes (wkC f.inodes 0 (gQ s)).1=2 then((wkC f.inodes 0 (gQ s)).1,qC s,0)else(0,⟨#[]⟩,9)else(0,⟨#[]⟩,(wkC f.inodes 0 (gQ s)).2)else(0,⟨#[]⟩,kZ s)
theorem aAa {f:DFs}{s:ByteArray} (h:¬kZ s=0):aQ f s=(0,⟨#[]⟩,kZ s):=if_neg h
theorem zU {f:DFs}{s:ByteArray} (h:kZ s=0) (h2:¬(wkC f.inodes 0 (gQ s)).2=0):aQ f s=(0,⟨#[]⟩,(wkC f.inodes 0 (gQ s)).2):=by rw [aQ,if_pos h,if_neg h2]
theorem zV {f:DFs}{s:ByteArray} (h:kZ s=0) (h2:(wkC f.inodes 0 (gQ s)).2=0) (h3:¬bF f.inodes (wkC f.inodes 0 (gQ s)).1=2):aQ f s=(0,⟨#[]⟩,9):=by rw [aQ,if_pos h,if_pos h2,if_neg h3]
theorem aAe {f:DFs}{s:ByteArray} (h:kZ s=0) (h2:(wkC f.inodes 0 (gQ s)).2=0) (h3:bF f.inodes (wkC f.inodes 0 (gQ s)).1=2):aQ f s=((wkC f.inodes 0 (gQ s)).1,qC s,0):=by rw [aQ,if_pos h,if_pos h2,if_pos h3]
theorem nQ {f:DFs}{s:ByteArray}:(aQ f s).2.1.size≤4:=by
  have:=xO s
  by_cases h1:kZ s=0
  · by_cases h2 : (wkC f.inodes 0 (gQ s)).2 = 0
    · by_cases h3 : bF f.inodes (wkC f.inodes 0 (gQ s)).1 = 2
      · rw [aAe h1 h2 h3];exact this
      · rw [zV h1 h2 h3];exact Nat.zero_le _
    · rw [zU h1 h2];exact Nat.zero_le _
  · rw [aAa h1];exact Nat.zero_le _
def sQ (xs:List aF) (a:Int):Int:=match xs[a.toNat]? with | some x=>x.size | none=>0
theorem vU {xs:List aF}{a:Int}{j:Nat}{x:aF} (hx:xs[j]? =some x) (h:a=(j:Int)):sQ xs a=x.size:=by
  subst h
  unfold sQ
  rw [Int.toNat_natCast,hx]
def aBe (f:DFs) (a:Int):aFy:=if bF f.inodes a=2 then⟨0,a,bF f.inodes a,1,((aH f.inodes a).length:Int)⟩else⟨0,a,bF f.inodes a,dM f.inodes a,sQ f.inodes a⟩
theorem aDd {f:DFs}{a:Int} (h:bF f.inodes a=2):aBe f a=⟨0,a,bF f.inodes a,1,((aH f.inodes a).length:Int)⟩:=if_pos h
theorem aDa {f:DFs}{a:Int} (h:¬bF f.inodes a=2):aBe f a=⟨0,a,bF f.inodes a,dM f.inodes a,sQ f.inodes a⟩:=if_neg h
noncomputable def kG (f:DFs) (s:ByteArray):aFy:=if eQ f=0 then if(cT f s).2=0 then aBe f (cT f s).1 else⟨(cT f s).2,0,0,0,0⟩else⟨eQ f,0,0,0,0⟩
theorem vP {f:DFs}{s:ByteArray} (h:¬eQ f=0):kG f s=⟨eQ f,0,0,0,0⟩:=if_neg h
theorem vI {f:DFs}{s:ByteArray} (h:eQ f=0) (h2:¬(cT f s).2=0):kG f s=⟨(cT f s).2,0,0,0,0⟩:=by rw [kG,if_pos h,if_neg h2]
theorem vO {f:DFs}{s:ByteArray} (h:eQ f=0) (h2:(cT f s).2=0):kG f s=aBe f (cT f s).1:=by rw [kG,if_pos h,if_pos h2]
end Go.Proofs.YtmejbfmhaoilmaaGreat
/- What is proved: the answers of AddName. No condition. -/
namespace Go.Proofs.YtmejbfmhaoilmaaGreat
set_option linter.unusedVariables false
set_option linter.unusedSimpArgs false
end Go.Proofs.YtmejbfmhaoilmaaGreat
/- What is proved: what a drawn tree keeps through all calls: its places lie where they should; plain Lean. No condition. -/
namespace Go.Proofs.YtmejbfmhaoilmaaGreat
open Go Go.RowKit
set_option linter.unusedVariables false
set_option linter.unusedSimpArgs false
structure Jx (n : Nat) (x : aF) : Prop where
  k:0≤x.kind∧x.kind≤2
  l:0≤x.links∧x.links≤60
  z:x.kind=1∨x.links=0
  s:0≤x.size∧x.size≤32
  b:∀b,b∈x.blocks→0≤b∧b≤19
  bl:x.blocks.length≤4
  e6:x.ents.length≤6
  e:∀e,e∈x.ents→(0≤e.ino∧e.ino<(n:Int))∧e.name.size≤4
structure J0 (f : DFs) : Prop where
  n:0<f.inodes.length∧f.inodes.length≤10
  d:f.data.length=20
  x:∀x,x∈f.inodes→Jx f.inodes.length x
structure Jf (f : DFs) : Prop extends J0 f where
  o:∀x,x∈f.inodes→x.kind=1→1≤x.links
theorem Jx.up {n m:Nat}{x:aF} (h:Jx n x) (hm:n≤m):Jx m x:=⟨h.k,h.l,h.z,h.s,h.b,h.bl,h.e6,fun e he=>by have:=h.e e he;exact⟨by omega,this.2⟩⟩
theorem zH (n:Nat):Jx n ⟨0,0,0,[],[]⟩:=⟨by decide,by decide,.inr rfl,by decide,fun _ h=>absurd h (by simp),by decide,by decide,fun _ h=>absurd h (by simp)⟩
theorem aDc {n:Nat}{k:Int} (h:0≤k∧k≤2):Jx n ⟨k,0,0,[],[]⟩:=⟨h,by dsimp only;omega,.inr rfl,by dsimp only;omega,fun _ h=>absurd h (by simp),by simp,by simp,fun _ h=>absurd h (by simp)⟩
theorem J0.get {f:DFs} (h:J0 f) {j:Nat}{x:aF} (hx:f.inodes[j]? =some x):Jx f.inodes.length x:=h.x x (List.mem_of_getElem? hx)
theorem aKf : Jf ⟨[⟨2, 0, 0, [], []⟩], List.replicate 20 []⟩ where
  n:=by decide
  d:=by simp
  x:=fun x hx=>by obtain rfl:=List.mem_singleton.1 hx;exact aDc (by decide)
  o:=fun x hx hk=>by obtain rfl:=List.mem_singleton.1 hx;exact absurd hk (by decide)
theorem aAl {α:Type}{xs:List α}{j:Nat}{y z:α} (h:z∈xs.set j y):z=y∨z∈xs:=by
  obtain⟨i,hi⟩:=List.mem_iff_getElem?.1 h
  rw [List.getElem?_set] at hi
  split at hi
  · split at hi
    · exact .inl (Option.some.inj hi).symm
    · cases hi
  · exact .inr (List.mem_of_getElem? hi)
theorem aAg {xs : List aF} {d : List (List UInt8)} {j : Nat} {y : aF} (h : J0 ⟨xs, d⟩) (hy : Jx xs.length y) : J0 ⟨xs.set j y, d⟩ where
  n:=by simpa using h.n
  d:=h.d
  x:=fun x hx=>by
    show Jx (xs.set j y).length x
    rw [List.length_set]
    rcases aAl hx with rfl | hx
    · exact hy
    · exact h.x x hx
theorem aEb {xs : List aF} {d : List (List UInt8)} {j : Nat} {y : aF} (h : Jf ⟨xs, d⟩) (hy : Jx xs.length y) (ho : y.kind = 1 → 1 ≤ y.links) : Jf ⟨xs.set j y, d⟩ where
  toJ0:=aAg h.toJ0 hy
  o:=fun x hx=>by
    rcases aAl hx with rfl | hx
    · exact ho
    · exact h.o x hx
theorem aCy {xs:List aF}{d d':List (List UInt8)} (h:Jf ⟨xs,d⟩) (hd:d'.length=20):Jf ⟨xs,d'⟩:=⟨⟨h.n,hd,h.x⟩,h.o⟩
theorem aJ6 {xs : List aF} {d : List (List UInt8)} (h : Jf ⟨xs, d⟩) (hl : xs.length < 10) : Jf ⟨xs ++ [⟨0, 0, 0, [], []⟩], d⟩ where
  n:=by simp;omega
  d:=h.d
  x:=fun x hx=>by
    show Jx (xs++ [_]).length x
    rw [List.length_append]
    rcases List.mem_append.1 hx with hx | hx
    · exact(h.x x hx).up (by show xs.length≤_;omega)
    · obtain rfl:=List.mem_singleton.1 hx;exact zH _
  o:=fun x hx hk=>by
    rcases List.mem_append.1 hx with hx | hx
    · exact h.o x hx hk
    · obtain rfl:=List.mem_singleton.1 hx;exact absurd hk (by decide)
theorem aGs {f:DFs} (h:J0 f) {a:Int}{i:Nat}{e:bV} (he:(aH f.inodes a)[i]? =some e):bZ f.inodes.length e.ino∧e.name.size≤4:=by
  unfold aH at he
  cases hx:f.inodes[a.toNat]? with
  | none=>rw [hx] at he;simp at he
  | some x=>
    rw [hx] at he
    have:=(h.get hx).e e (List.mem_of_getElem? he)
    exact⟨⟨this.1.1,by omega⟩,this.2⟩
theorem kV {f:DFs} (h:J0 f) (a:Int):(aH f.inodes a).length≤6:=by
  unfold aH
  cases hx:f.inodes[a.toNat]? with
  | none=>simp
  | some x=>exact(h.get hx).e6
theorem pY {f:DFs} (h:J0 f) {a:Int}{i:Nat} (hi:i<(aH f.inodes a).length):bZ f.inodes.length (eX (aH f.inodes a) i):=by
  obtain⟨e,he⟩:=aI hi
  rw [nF he]
  exact(aGs h he).1
theorem uM {f:DFs} (h:J0 f) {a:Int}{s:ByteArray} (hk:¬jJ (aH f.inodes a) s<0):bZ f.inodes.length (jJ (aH f.inodes a) s):=by
  obtain⟨ix,hi⟩:=aBp hk
  have hr:=gP (dH s) (aH f.inodes a)
  rw [tS hi]
  exact pY h (by omega)
theorem fF {f:DFs}{a:Int}{s:ByteArray}{es:List bV} (h:J0 f) (e:aH f.inodes a=es):(0≤fG (dH s) es∧0≤jJ (aH f.inodes a) s)∨(fG (dH s) es<0∧jJ (aH f.inodes a) s<0):=by
  subst e
  by_cases hk:fG (dH s) (aH f.inodes a)<0
  · exact .inr ⟨hk,by rw [rM hk];decide⟩
  · obtain ⟨ix, hix, hil, -⟩ := lU (show ¬ fG (dH s) (aH f.inodes a) = -1 by omega)
    exact .inl ⟨by omega,by rw [tS hix];exact(pY h hil).1⟩
theorem jY {f:DFs} (h:J0 f):bZ f.inodes.length 0:=⟨Int.le_refl _,by have:=h.n.1;omega⟩
theorem pI {f : DFs} (h : J0 f) : ∀ (ns : List ByteArray) (a : Int), bZ f.inodes.length a → bZ f.inodes.length (wkC f.inodes a ns).1
  | [],a,ha=>ha
  | n :: ns,a,ha=>by
    unfold wkC
    split
    · split
      · exact jY h
      · rename_i h3;exact pI h ns _ (uM h h3)
    · exact jY h
theorem qA {f:DFs} (h:J0 f) (s:ByteArray):bZ f.inodes.length (cT f s).1:=by
  unfold cT
  split
  · exact pI h _ _ (jY h)
  · exact jY h
theorem lR {f:DFs} (h:J0 f) (s:ByteArray):bZ f.inodes.length (aQ f s).1:=by
  by_cases h1:kZ s=0
  · by_cases h2 : (wkC f.inodes 0 (gQ s)).2 = 0
    · by_cases h3 : bF f.inodes (wkC f.inodes 0 (gQ s)).1 = 2
      · rw [aAe h1 h2 h3];exact pI h _ _ (jY h)
      · rw [zV h1 h2 h3];exact jY h
    · rw [zU h1 h2];exact jY h
  · rw [aAa h1];exact jY h
theorem jG {f:DFs} (h:J0 f):∀(j:Nat) (x:aF),f.inodes[j]? =some x→∀(i:Nat) (e:bV),x.ents[i]? =some e→e.ino<(f.inodes.length:Int):=fun j x hx i e he=>((h.get hx).e e (List.mem_of_getElem? he)).1.2
theorem qN {n:Nat}{x:aF} (h:Jx n x):∀(j:Nat) (e:bV),x.ents[j]? =some e→(0≤e.ino∧e.ino<(n:Int))∧e.name.size≤4:=fun j e he=>h.e e (List.mem_of_getElem? he)
theorem wO {f:DFs} (h:J0 f) (k:Int):0≤dM f.inodes k∧dM f.inodes k≤60:=by
  unfold dM
  cases hx:f.inodes[k.toNat]? with
  | none=>simp
  | some x=>exact(h.get hx).l
theorem aCb {f:DFs} (h:J0 f) {k:Int} (hk:bF f.inodes k=1):0≤dM f.inodes k∧dM f.inodes k≤60:=wO h k
theorem kO {f:DFs} (h:J0 f) {k:Int} (hk:¬bF f.inodes k=1):dM f.inodes k=0:=by
  unfold bF at hk
  unfold dM
  cases hx:f.inodes[k.toNat]? with
  | none=>rfl
  | some x=>
    rw [hx] at hk
    exact(h.get hx).z.resolve_left hk
theorem aKh {f:DFs} (h:J0 f) (k:Int):0≤bF f.inodes k∧bF f.inodes k≤2:=by
  unfold bF
  cases hx:f.inodes[k.toNat]? with
  | none=>simp
  | some x=>exact(h.get hx).k
theorem aKs {f:DFs} (h:J0 f) (k:Int):0≤sQ f.inodes k∧sQ f.inodes k≤32:=by
  unfold sQ
  cases hx:f.inodes[k.toNat]? with
  | none=>simp
  | some x=>exact(h.get hx).s
theorem aFm {f:DFs} (h:J0 f) (s:ByteArray):(0≤(kG f s).kind∧(kG f s).kind≤2)∧(0≤(kG f s).links∧(kG f s).links≤60)∧(0≤(kG f s).size∧(kG f s).size≤32):=by
  unfold kG
  split
  · split
    · have h1 := aKh h (cT f s).1
      have h2:=wO h (cT f s).1
      have h3:=aKs h (cT f s).1
      have h4:=kV h (cT f s).1
      unfold aBe
      split
      · dsimp only;omega
      · dsimp only;omega
    · dsimp only;omega
  · dsimp only;omega
theorem aHm {f:DFs} (h:J0 f) (k:Int):∀b,b∈eN f.inodes k→0≤b∧b≤19:=by
  unfold eN
  cases hx:f.inodes[k.toNat]? with
  | none=>intro b hb;cases hb
  | some x=>exact(h.get hx).b
theorem aBb {α : Type} {f : α → Nat} (h : ∀ x, f x ≤ 1) : ∀ xs : List α, gS f xs ≤ xs.length
  | []=>Nat.zero_le _
  | x :: xs=>by have h1:=h x;have h2:=aBb h xs;simp only [gS,List.length_cons];omega
theorem aE0 {f:DFs} (h:J0 f) (k:Int):fQ f.inodes k≤60:=by
  have h1:fQ f.inodes k≤f.inodes.length * 6:=tJ fun x hx=>Nat.le_trans (aBb (fun e=>by unfold oN;split <;> omega) x.ents) (h.x x hx).e6
  have:=h.n.2
  omega
theorem aEp {f : DFs} (h : Jf f) {k : Int} (hp : bZ f.inodes.length k) : vJ f k where
  p:=hp
  d:=h.d
  b:=aHm h.toJ0 k
  l:=aE0 h.toJ0 k
  k:=fun hk=>by
    refine⟨?_,(wO h.toJ0 k).2⟩
    unfold bF at hk
    unfold dM
    cases hx:f.inodes[k.toNat]? with
    | none=>rw [hx] at hk;exact absurd hk (by decide)
    | some x=>rw [hx] at hk;exact h.o x (List.mem_of_getElem? hx) hk
theorem aBl {f:DFs} (h:J0 f) {a:Int}{es:List bV} (h6:es.length≤6) (he:∀e,e∈es→bZ f.inodes.length e.ino∧e.name.size≤4):J0 (dJ f a es):=by
  show J0 ⟨gT f.inodes a es,f.data⟩
  unfold gT
  split
  · rename_i y hy
    have:=h.get hy
    exact aAg h ⟨this.k,this.l,this.z,this.s,this.b,this.bl,h6,fun e hm=>⟨⟨(he e hm).1.1,by have:=(he e hm).1.2;omega⟩,(he e hm).2⟩⟩
  · exact h
theorem aH5 {f:DFs} (h:Jf f) {a:Int}{es:List bV} (h6:es.length≤6) (he:∀e,e∈es→bZ f.inodes.length e.ino∧e.name.size≤4):Jf (dJ f a es):=by
  refine⟨aBl h.toJ0 h6 he,?_⟩
  show∀x,x∈gT f.inodes a es→x.kind=1→1≤x.links
  unfold gT
  split
  · rename_i y hy
    intro x hx
    rcases aAl hx with rfl | hx
    · exact h.o y (List.mem_of_getElem? hy)
    · exact h.o x hx
  · exact h.o
theorem aBn {xs:List aF}{a:Int}{e:bV} (h:e∈aH xs a):∃i:Nat,(aH xs a)[i]? =some e:=List.mem_iff_getElem?.1 h
theorem vW {f:DFs} (h:Jf f) {a:Int}{i:Nat}:Jf (dJ f a ((aH f.inodes a).eraseIdx i)):=
  aH5 h (Nat.le_trans (List.length_eraseIdx_le _ _) (kV h.toJ0 a)) fun e he=>by
    obtain⟨j,hj⟩:=aBn (List.mem_of_mem_eraseIdx he)
    exact aGs h.toJ0 hj
theorem aBy {es:List bV}{n e:bV} (h:e∈gN es n):e=n∨e∈es:=by
  simp only [gN,List.mem_append,List.mem_singleton] at h
  rcases h with (h | h) | h
  · exact .inr (List.mem_of_mem_take h)
  · exact .inl h
  · exact .inr (List.mem_of_mem_drop h)
theorem aBh {es:List bV}{n:bV}:(gN es n).length=es.length+1:=by
  simp only [gN,List.length_append,List.length_take,List.length_drop,List.length_cons,List.length_nil]
  omega
theorem aJj {f:DFs} (h:J0 f) {a:Int}{e:bV} (h5:(aH f.inodes a).length≤5) (hp:bZ f.inodes.length e.ino) (hn:e.name.size≤4):J0 (dJ f a (gN (aH f.inodes a) e)):=
  aBl h (by rw [aBh];omega) fun e' he=>by
    rcases aBy he with rfl | he
    · exact⟨hp,hn⟩
    · obtain⟨j,hj⟩:=aBn he;exact aGs h hj
theorem aDh {f:DFs} (h:J0 f) {a n:Int} (hk:bF f.inodes a=1) (hn:1≤n∧n≤60) (ho:∀(j:Nat) x,f.inodes[j]? =some x→j≠a.toNat→x.kind=1→1≤x.links):Jf ⟨fY f.inodes a n,f.data⟩:=by
  unfold fY
  unfold bF at hk
  cases hx:f.inodes[a.toNat]? with
  | none=>rw [hx] at hk;exact absurd hk (by decide)
  | some y=>
    rw [hx] at hk
    simp only at hk ⊢
    have:=h.get hx
    refine⟨aAg h ⟨this.k,by dsimp only;omega,.inl hk,this.s,this.b,this.bl,this.e6,this.e⟩,fun x hm hk1=> ?_⟩
    obtain⟨i,hi⟩:=List.mem_iff_getElem?.1 hm
    rw [List.getElem?_set] at hi
    split at hi
    · split at hi
      · obtain rfl:=Option.some.inj hi;exact hn.1
      · cases hi
    · rename_i hne;exact ho i x hi (fun e=>hne e.symm) hk1
theorem aJz {f:DFs} (h:Jf f) (k:Int):Jf (tL f k):=
  aCy (aEb h (zH _) (fun hk=>absurd hk (by decide))) (by rw [iI];exact h.d)
theorem aJ4 {f:DFs} (h:Jf f) (k:Int):Jf (iF f k):=by
  by_cases h1:bF f.inodes k=1
  · by_cases h2 : 1 < dM f.inodes k
    · rw [tX h1 h2]
      exact aDh h.toJ0 h1 (by have:=wO h.toJ0 k;omega) fun j x hx _=>h.o x (List.mem_of_getElem? hx)
    · by_cases h3 : fQ f.inodes k = 0
      · rw [nP h1 h2 h3];exact aJz h k
      · rw [tC h1 h2 h3];exact h
  · rw [tK h1];exact h
def jF (f:DFs) (a:Int) (i:Nat):DFs:=
  if bF (iF (dJ f a ((aH f.inodes a).eraseIdx i)) (eX (aH f.inodes a) i)).inodes (eX (aH f.inodes a) i)=2 then⟨(iF (dJ f a ((aH f.inodes a).eraseIdx i)) (eX (aH f.inodes a) i)).inodes.set (eX (aH f.inodes a) i).toNat ⟨0,0,0,[],[]⟩,(iF (dJ f a ((aH f.inodes a).eraseIdx i)) (eX (aH f.inodes a) i)).data⟩
  else iF (dJ f a ((aH f.inodes a).eraseIdx i)) (eX (aH f.inodes a) i)
theorem aEd {f:DFs}{a:Int}{i:Nat} (h:bF (iF (dJ f a ((aH f.inodes a).eraseIdx i)) (eX (aH f.inodes a) i)).inodes (eX (aH f.inodes a) i)=2):jF f a i=⟨(iF (dJ f a ((aH f.inodes a).eraseIdx i)) (eX (aH f.inodes a) i)).inodes.set (eX (aH f.inodes a) i).toNat ⟨0,0,0,[],[]⟩,(iF (dJ f a ((aH f.inodes a).eraseIdx i)) (eX (aH f.inodes a) i)).data⟩:=if_pos h
theorem aDv {f:DFs}{a:Int}{i:Nat} (h:¬bF (iF (dJ f a ((aH f.inodes a).eraseIdx i)) (eX (aH f.inodes a) i)).inodes (eX (aH f.inodes a) i)=2):jF f a i=iF (dJ f a ((aH f.inodes a).eraseIdx i)) (eX (aH f.inodes a) i):=if_neg h
theorem wM {f:DFs}{k:Int}:(iF f k).inodes.length=f.inodes.length:=by
  unfold iF
  split
  · split
    · exact dX
    · split
      · simp
      · rfl
  · rfl
theorem jI {f:DFs} (h:Jf f) (a:Int) (i:Nat):Jf (jF f a i):=by
  have h1:=aJ4 (vW h (a:=a) (i:=i)) (eX (aH f.inodes a) i)
  unfold jF
  split
  · exact aEb h1 (zH _) (fun hk=>absurd hk (by decide))
  · exact h1
theorem yO {f:DFs}{a:Int}{i:Nat}:(jF f a i).inodes.length=f.inodes.length:=by
  unfold jF
  split
  · rw [List.length_set,wM];exact dI
  · rw [wM];exact dI
theorem rH {xs:List aF}{j:Nat}{y:aF}{d:Int} (h:d.toNat≠j):aH (xs.set j y) d=aH xs d:=by
  unfold aH
  rw [List.getElem?_set_ne (fun e=>h e.symm)]
theorem wD {xs:List aF}{a n d:Int}:aH (fY xs a n) d=aH xs d:=by
  unfold aH
  cases h:(fY xs a n)[d.toNat]? with
  | none=>rw [List.getElem?_eq_none_iff,dX] at h;rw [List.getElem?_eq_none h]
  | some y=>obtain⟨x,hx,rfl⟩:=yN _ y h;rw [hx]
theorem sT {xs:List aF}{a d:Int}{es:List bV} (h:a.toNat<xs.length):aH (gT xs a es) d=if d.toNat=a.toNat then es else aH xs d:=by
  unfold aH
  cases hg:(gT xs a es)[d.toNat]? with
  | none=>
    rw [List.getElem?_eq_none_iff,dI] at hg
    rw [if_neg (by omega),List.getElem?_eq_none hg]
  | some y=>obtain⟨x,hx,rfl⟩:=pG _ y hg;rw [hx]
theorem yI {f:DFs}{k d:Int} (h:d.toNat≠k.toNat):aH (iF f k).inodes d=aH f.inodes d:=by
  unfold iF
  split
  · split
    · exact wD
    · split
      · exact rH h
      · rfl
  · rfl
theorem xY {f:DFs}{k d:Int}:(aH (iF f k).inodes d).length≤(aH f.inodes d).length:=by
  by_cases h:d.toNat=k.toNat
  · unfold iF
    split
    · split
      · rw [wD];exact Nat.le_refl _
      · split
        · show (aH (f.inodes.set k.toNat ⟨0, 0, 0, [], []⟩) d).length ≤ _
          by_cases hl:k.toNat<f.inodes.length
          · have : aH (f.inodes.set k.toNat ⟨0, 0, 0, [], []⟩) d = [] := by unfold aH; rw [h, List.getElem?_set_self hl]
            rw [this];exact Nat.zero_le _
          · rw [List.set_eq_of_length_le (by omega)];exact Nat.le_refl _
        · exact Nat.le_refl _
    · exact Nat.le_refl _
  · rw [yI h];exact Nat.le_refl _
theorem xS {xs:List aF}{j:Nat}{d:Int}:(aH (xs.set j ⟨0,0,0,[],[]⟩) d).length≤(aH xs d).length:=by
  by_cases h:d.toNat=j
  · by_cases hl : j < xs.length
    · have : aH (xs.set j ⟨0, 0, 0, [], []⟩) d = [] := by unfold aH; rw [h, List.getElem?_set_self hl]
      rw [this];exact Nat.zero_le _
    · rw [List.set_eq_of_length_le (by omega)];exact Nat.le_refl _
  · rw [rH h];exact Nat.le_refl _
theorem aC7 {f:DFs}{a d:Int}{i:Nat} (ha:a.toNat<f.inodes.length) (hd:d.toNat≠(eX (aH f.inodes a) i).toNat):aH (jF f a i).inodes d=if d.toNat=a.toNat then(aH f.inodes a).eraseIdx i else aH f.inodes d:=by
  have h1:aH (iF (dJ f a ((aH f.inodes a).eraseIdx i)) (eX (aH f.inodes a) i)).inodes d=if d.toNat=a.toNat then(aH f.inodes a).eraseIdx i else aH f.inodes d:=by
    rw [yI hd];exact sT ha
  unfold jF
  split
  · show aH (List.set _ _ _) d = _
    rw [rH hd];exact h1
  · exact h1
theorem tF {f:DFs}{a:Int}{i:Nat} (ha:a.toNat<f.inodes.length) (hi:i<(aH f.inodes a).length):(aH (jF f a i).inodes a).length+1≤(aH f.inodes a).length:=by
  have h0:(aH (dJ f a ((aH f.inodes a).eraseIdx i)).inodes a).length+1=(aH f.inodes a).length:=by
    show(aH (gT f.inodes a _) a).length+1=_
    rw [sT ha,if_pos rfl,List.length_eraseIdx_of_lt hi];omega
  have h1:=xY (f:=dJ f a ((aH f.inodes a).eraseIdx i)) (k:=eX (aH f.inodes a) i) (d:=a)
  unfold jF
  split
  · have h2 := xS (xs := (iF (dJ f a ((aH f.inodes a).eraseIdx i)) (eX (aH f.inodes a) i)).inodes) (j := (eX (aH f.inodes a) i).toNat) (d := a)
    show(aH (List.set _ _ _) a).length+1≤_
    omega
  · omega
theorem aIv {f:DFs} (h:J0 f) {a b:Int}{s:ByteArray} (hs:s.size≤4) (ho:qO f a s b=0∨Jf f) (hf:∀(j:Nat) x,f.inodes[j]? =some x→j≠b.toNat→x.kind=1→1≤x.links):Jf (oL f a s b):=by
  by_cases hc:qO f a s b=0
  · have hc' := hc
    unfold qO at hc'
    split at hc'
    · exact absurd hc' (by decide)
    · split at hc'
      · exact absurd hc' (by decide)
      · split at hc'
        · exact absurd hc' (by decide)
        · rename_i h1 h2 h3
          have h2':bZ f.inodes.length b∧bF f.inodes b≠0:=Classical.byContradiction h2
          have hj:=aJj h (a:=a) (e:=⟨s,b⟩) (by omega) h2'.1 hs
          have hoth:∀(j:Nat) x,(gT f.inodes a (gN (aH f.inodes a) ⟨s,b⟩))[j]? =some x→j≠b.toNat→x.kind=1→1≤x.links:=fun j x hx hne hk=>by
            obtain⟨y,hy,rfl⟩:=pG _ x hx
            exact hf j y hy hne hk
          by_cases hk:bF f.inodes b=1
          · rw [qP hc hk]
            exact aDh hj (by rw [wT];exact hk) (by have:=wO h b;omega) hoth
          · rw [rF hc hk]
            refine⟨hj,fun x hx hk1=> ?_⟩
            obtain⟨j,hjx⟩:=List.mem_iff_getElem?.1 hx
            by_cases hjb:j=b.toNat
            · subst hjb
              obtain⟨y,hy,rfl⟩:=pG _ x hjx
              unfold bF at hk
              rw [hy] at hk
              exact absurd hk1 hk
            · exact hoth j x hjx hjb hk1
  · rw [iT hc]
    exact ho.elim (fun h=>absurd h hc) id
theorem xE {f:DFs} (h:Jf f) {a b:Int}{s:ByteArray} (hs:s.size≤4):Jf (oL f a s b):=aIv h.toJ0 hs (.inr h) fun j x hx _=>h.o x (List.mem_of_getElem? hx)
theorem aI7 {f:DFs} (h:Jf f) {xs:List aF} (hxs:xs=f.inodes∨(f.inodes.length<10∧xs=f.inodes++ [⟨0,0,0,[],[]⟩])) {a b k:Int}{s:ByteArray} (hk:1≤k∧k≤2) (hb:0≤b∧b<(xs.length:Int)) (hs:s.size≤4) (hl:jJ (aH xs a) s<0) (h6:(aH xs a).length<6) (hne:a.toNat≠b.toNat):
    J0 ⟨xs.set b.toNat ⟨k,0,0,[],[]⟩,f.data⟩∧Jf (oL ⟨xs.set b.toNat ⟨k,0,0,[],[]⟩,f.data⟩ a s b):=by
  have hj:Jf ⟨xs,f.data⟩:=by
    rcases hxs with rfl |⟨h1,rfl⟩
    · exact h
    · exact aJ6 h h1
  have h0:=aAg hj.toJ0 (j:=b.toNat) (aDc (n:=xs.length) (k:=k) (by omega))
  have hlt:b.toNat<xs.length:=by omega
  have hkb:bF (xs.set b.toNat ⟨k,0,0,[],[]⟩) b=k:=by unfold bF;rw [List.getElem?_set_self hlt]
  have hlb:dM (xs.set b.toNat ⟨k,0,0,[],[]⟩) b=0:=by unfold dM;rw [List.getElem?_set_self hlt]
  have hea:aH (xs.set b.toNat ⟨k,0,0,[],[]⟩) a=aH xs a:=rH hne
  have hc:qO ⟨xs.set b.toNat ⟨k,0,0,[],[]⟩,f.data⟩ a s b=0:=by
    refine lL ?_ ?_ ?_
    · show ¬ 0 ≤ jJ (aH (xs.set b.toNat _) a) s
      rw [hea];omega
    · show bZ (xs.set b.toNat _).length b ∧ bF (xs.set b.toNat _) b ≠ 0
      rw [hkb,List.length_set]
      exact⟨⟨hb.1,by omega⟩,by omega⟩
    · show ¬ (6 ≤ (aH (xs.set b.toNat _) a).length ∨ (bF (xs.set b.toNat _) b = 1 ∧ 60 ≤ dM (xs.set b.toNat _) b))
      rw [hea,hlb];omega
  refine⟨h0,aIv h0 hs (.inl hc) fun j x hx hne hk1=> ?_⟩
  have hx':(xs.set b.toNat ⟨k,0,0,[],[]⟩)[j]? =some x:=hx
  rw [List.getElem?_set_ne (fun e=>hne e.symm)] at hx'
  exact hj.o x (List.mem_of_getElem? hx') hk1
theorem aJ5 {f:DFs} (h:Jf f) {a:Int}{L:List UInt8}{ws:List Int} (hL:L.length≤32) (hw:∀b,b∈ws→0≤b∧b≤19) (hl:ws.length≤4):Jf (kK f a L ws):=by
  have hd:(oB (gD f a) ws L ws.length).length=20:=by rw [oA,iI];exact h.d
  show Jf ⟨qH f.inodes a L.length ws,oB (gD f a) ws L ws.length⟩
  unfold qH
  cases hx:f.inodes[a.toNat]? with
  | none=>exact aCy (xs:=f.inodes) h hd
  | some y=>
    have:=h.get hx
    exact aCy (aEb (y:=⟨y.kind,y.links,L.length,ws,y.ents⟩) h ⟨this.k,this.l,this.z,by dsimp only;omega,hw,hl,this.e6,this.e⟩ (h.o y (List.mem_of_getElem? hx))) hd
theorem aFi {xs:List aF}{a n:Int}{ws:List Int}:(qH xs a n ws).length=xs.length:=by
  unfold qH;split <;> simp
theorem aG2 {f:DFs} (h:Jf f) {a:Int}{L:List UInt8}{busy:List Int} (hc:(sB f a L busy).code=0):Jf (sB f a L busy).fs∧(sB f a L busy).fs.inodes.length=f.inodes.length:=by
  by_cases h1:(L.length:Int)≤32
  · by_cases h2 : (cY f L busy).code = 0
    · rw [tZ h1 h2]
      have hp:=vQ h2
      have h9:((cY f L busy).list.length:Int)=((L.length:Int)+7) / 8:=hp.2
      exact⟨aJ5 h (by omega) hp.1 (by omega),aFi⟩
    · rw [uF h1 h2] at hc;exact absurd hc h2
  · rw [xM h1] at hc;exact absurd hc (by decide)
theorem aHo {f:DFs} (h:Jf f) {a i:Int}{ys:List UInt8}{busy:List Int} (hc:(aU f a i ys busy).code=0):Jf (aU f a i ys busy).fs∧(aU f a i ys busy).fs.inodes.length=f.inodes.length:=by
  unfold aU at hc ⊢
  split at hc
  · rename_i h1
    rw [if_pos h1]
    split at hc
    · rename_i h2
      rw [if_pos h2]
      split at hc
      · exact absurd hc (by decide)
      · rename_i h3
        rw [if_neg h3]
        split at hc
        · rename_i h4;rw [if_pos h4];exact⟨h,rfl⟩
        · rename_i h4;rw [if_neg h4];exact aG2 h hc
    · exact absurd hc (by decide)
  · rename_i h1;exact absurd hc h1
theorem aL0 {f:DFs} (h:Jf f) {a n:Int}{busy:List Int} (hc:(pF f a n busy).code=0):Jf (pF f a n busy).fs∧(pF f a n busy).fs.inodes.length=f.inodes.length:=by
  unfold pF at hc ⊢
  split at hc
  · rename_i h1
    rw [if_pos h1]
    split at hc
    · rename_i h2;rw [if_pos h2];exact aG2 h hc
    · exact absurd hc (by decide)
  · rename_i h1;exact absurd hc h1
theorem uU {es:List bV}{s:ByteArray}{e:bV} (h:e∈es) (hn:e.name=s):0≤fG (dH s) es:=by
  unfold fG
  cases hf:es.findIdx? (dH s) with
  | some i=>simp only;omega
  | none=>
    have:=List.findIdx?_eq_none_iff.1 hf e h
    simp [hn] at this
theorem aEu {α:Type}{xs:List α}{i j:Nat}{x:α} (h:xs[i]? =some x) (hne:i≠j):x∈xs.eraseIdx j:=by
  by_cases hlt:i<j
  · exact List.mem_of_getElem? (i:=i) (by rw [List.getElem?_eraseIdx_of_lt hlt];exact h)
  · exact List.mem_of_getElem? (i:=i - 1) (by rw [List.getElem?_eraseIdx_of_ge (by omega),show i - 1+1=i by omega];exact h)
theorem yM {f : DFs} (h : Jf f) {d t : Int} {s : ByteArray} {i k : Nat} (hd : bZ f.inodes.length d) (ht : bZ f.inodes.length t) (hi : fG (dH s) (aH f.inodes d) = (i : Int)) (hk : k < (aH f.inodes t).length)
    (hne:eX (aH f.inodes t) k≠eX (aH f.inodes d) i) (h0:(aH f.inodes (eX (aH f.inodes t) k)).length=0):0≤fG (dH s) (aH (jF f t k).inodes d):=by
  have hr:=gP (dH s) (aH f.inodes d)
  obtain⟨e,he⟩:=aI (xs:=aH f.inodes d) (j:=i) (by omega)
  have hen:e.name=s:=by
    unfold fG at hi
    cases hf:(aH f.inodes d).findIdx? (dH s) with
    | none=>rw [hf] at hi;simp only at hi;omega
    | some q=>
      rw [hf] at hi
      obtain rfl:q=i:=by simp only at hi;omega
      obtain⟨h1,h2, -⟩:=List.findIdx?_eq_some_iff_getElem.1 hf
      rw [List.getElem?_eq_getElem h1] at he
      obtain rfl:=Option.some.inj he
      exact of_decide_eq_true h2
  have hp:=pY h.toJ0 hk
  have hdo:d.toNat≠(eX (aH f.inodes t) k).toNat:=fun e2=>by
    have:d=eX (aH f.inodes t) k:=by have:=hd.1;have:=hp.1;omega
    rw [←this] at h0
    have:=(List.getElem?_eq_some_iff.1 he).1
    omega
  rw [aC7 (by have:=ht.1;have:=ht.2;omega) hdo]
  split
  · rename_i hdt
    obtain rfl:d=t:=by have:=hd.1;have:=ht.1;omega
    refine uU (aEu he fun e2=> ?_) hen
    subst e2
    exact hne rfl
  · exact uU (List.mem_of_getElem? he) hen
theorem aBw (xs:List aF): -1≤cZ xs∧cZ xs≤(xs.length:Int):=by
  unfold cZ
  cases hf:xs.findIdx? (fun x=>decide (x.kind=0)) with
  | none=>simp only;split <;> omega
  | some i=>have:=(List.findIdx?_eq_some_iff_getElem.1 hf).1;simp only;omega
theorem aFf {xs:List aF} (h:cZ xs=(xs.length:Int)) (h10:xs.length≤10):xs.length<10:=by
  unfold cZ at h
  cases hf:xs.findIdx? (fun x=>decide (x.kind=0)) with
  | none=>rw [hf] at h;simp only at h;split at h <;> omega
  | some i=>rw [hf] at h;have:=(List.findIdx?_eq_some_iff_getElem.1 hf).1;simp only at h;omega
theorem aE8 {xs:List aF} (h:0≤cZ xs):bF xs (cZ xs)=0:=by
  unfold cZ at h ⊢
  cases hf:xs.findIdx? (fun x=>decide (x.kind=0)) with
  | none=>
    simp only
    split
    · rename_i h1;rw [hf,if_pos h1] at h;exact absurd h (by decide)
    · exact pE (Int.le_refl _)
  | some i=>
    obtain⟨h1,h2, -⟩:=List.findIdx?_eq_some_iff_getElem.1 hf
    simp only
    rw [dC (List.getElem?_eq_getElem h1) rfl]
    exact of_decide_eq_true h2
theorem aEs {f:DFs}{s:ByteArray} (h:(aQ f s).2.2=0):bF f.inodes (aQ f s).1=2:=by
  by_cases h1:kZ s=0
  · by_cases h2 : (wkC f.inodes 0 (gQ s)).2 = 0
    · by_cases h3 : bF f.inodes (wkC f.inodes 0 (gQ s)).1 = 2
      · rw [aAe h1 h2 h3];exact h3
      · rw [zV h1 h2 h3] at h;exact absurd h (by decide)
    · rw [zU h1 h2] at h;exact absurd h h2
  · rw [aAa h1] at h;exact absurd h h1
theorem aFg {xs:List aF}{y:aF}{a:Int} (h:a.toNat<xs.length):aH (xs++ [y]) a=aH xs a:=by
  unfold aH
  rw [List.getElem?_append_left h]
theorem aMf {f : DFs} (hj : Jf f) {p : ByteArray} {k : Int} {xs : List aF} (hk : 1 ≤ k ∧ k ≤ 2) (hc : (aQ f p).2.2 = 0) (hl : fG (dH (aQ f p).2.1) (aH f.inodes (aQ f p).1) < 0) (h6 : (aH f.inodes (aQ f p).1).length < 6) (hb : 0 ≤ cZ f.inodes)
    (hxs:(¬cZ f.inodes=(f.inodes.length:Int)∧xs=f.inodes)∨(cZ f.inodes=(f.inodes.length:Int)∧xs=f.inodes++ [⟨0,0,0,[],[]⟩])):
    J0 ⟨xs.set (cZ f.inodes).toNat ⟨k,0,0,[],[]⟩,f.data⟩∧Jf (oL ⟨xs.set (cZ f.inodes).toNat ⟨k,0,0,[],[]⟩,f.data⟩ (aQ f p).1 (aQ f p).2.1 (cZ f.inodes))∧
    bZ (xs.set (cZ f.inodes).toNat ⟨k,0,0,[],[]⟩).length (aQ f p).1∧(aH (xs.set (cZ f.inodes).toNat ⟨k,0,0,[],[]⟩) (aQ f p).1).length≤6:=by
  have hp:=lR hj.toJ0 p
  have hr:=aBw f.inodes
  have h10:=hj.n.2
  have ha:(aQ f p).1.toNat<f.inodes.length:=by have:=hp.1;have:=hp.2;omega
  have hne:(aQ f p).1.toNat≠(cZ f.inodes).toNat:=fun e=>by
    have h1:=aEs hc
    have h2:=aE8 hb
    rw [show cZ f.inodes=(aQ f p).1 by have:=hp.1;omega] at h2
    omega
  have he:aH xs (aQ f p).1=aH f.inodes (aQ f p).1:=by
    rcases hxs with ⟨-,rfl⟩ |⟨-,rfl⟩
    · rfl
    · exact aFg ha
  have hlen:(cZ f.inodes)<(xs.length:Int)∧f.inodes.length≤xs.length:=by
    rcases hxs with ⟨h1,rfl⟩ |⟨h1,rfl⟩
    · omega
    · rw [List.length_append];simp only [List.length_cons,List.length_nil];omega
  have hm:=aI7 hj (xs:=xs) (a:=(aQ f p).1) (b:=cZ f.inodes) (k:=k) (s:=(aQ f p).2.1) (by
    rcases hxs with ⟨h1,rfl⟩ |⟨h1,rfl⟩
    · exact .inl rfl
    · exact .inr ⟨aFf h1 h10,rfl⟩) hk ⟨hb,hlen.1⟩ nQ (by rw [he,rM hl];decide) (by rw [he];exact h6) hne
  refine⟨hm.1,hm.2,?_,?_⟩
  · rw [List.length_set];exact⟨hp.1,by have:=hp.2;omega⟩
  · rw [rH hne,he];omega
theorem aHj {G:DFs} (h:Jf G) {j:Nat}{y:aF}{e:bV} (hy:G.inodes[j]? =some y) (h5:y.ents.length≤5) (hp:bZ G.inodes.length e.ino) (hn:e.name.size≤4):Jf ⟨G.inodes.set j ⟨y.kind,y.links,y.size,y.blocks,gN y.ents e⟩,G.data⟩:=by
  have:=h.get hy
  refine aEb (xs:=G.inodes) (d:=G.data) h ⟨this.k,this.l,this.z,this.s,this.b,this.bl,by show(gN y.ents e).length≤6;rw [aBh];omega,fun e' he=> ?_⟩ (h.o y (List.mem_of_getElem? hy))
  rcases aBy he with rfl | he
  · exact⟨⟨hp.1,by have:=hp.2;omega⟩,hn⟩
  · exact this.e e' he
theorem aEo {F:DFs}{d t:Int}{i:Nat} (hd:bZ F.inodes.length d) (ht:bZ F.inodes.length t) (hi:i<(aH F.inodes d).length):(aH (dJ F d ((aH F.inodes d).eraseIdx i)).inodes t).length≤(aH F.inodes t).length∧(t=d→(aH (dJ F d ((aH F.inodes d).eraseIdx i)).inodes t).length+1≤(aH F.inodes t).length):=by
  have h1:aH (dJ F d ((aH F.inodes d).eraseIdx i)).inodes t=if t.toNat=d.toNat then(aH F.inodes d).eraseIdx i else aH F.inodes t:=sT (by have:=hd.1;have:=hd.2;omega)
  rw [h1]
  split
  · rename_i h2
    obtain rfl:t=d:=by have:=hd.1;have:=ht.1;omega
    rw [List.length_eraseIdx_of_lt hi]
    omega
  · rename_i h2
    exact⟨Nat.le_refl _,fun e=>absurd (by rw [e]) h2⟩
end Go.Proofs.YtmejbfmhaoilmaaGreat
/- What is proved: a slice of one's own opened up in the middle, and the gap filled; zeros appended; two slices apart. No condition. -/
namespace Go.Proofs.YtmejbfmhaoilmaaGreat
open Go Go.RowKit
set_option linter.unusedVariables false
set_option linter.unusedSimpArgs false
section
variable {P:Program}{T:eY}{o:Oper}{w0:World}{S0:Bs}{l l':List Asn}
end
end Go.Proofs.YtmejbfmhaoilmaaGreat
/- What is proved: what is found below a place within ten steps is what can be reached, in plain Lean. No condition. -/
namespace Go.Proofs.YtmejbfmhaoilmaaGreat
open Go Go.RowKit
set_option linter.unusedVariables false
set_option linter.unusedSimpArgs false
def wi (xs : List aF) (a : Int) : Nat → Int → Bool
  | 0,b=>decide (b=a)
  | n+1,b=>decide (b=a) || (aH xs b).any (fun e=>wi xs a n e.ino)
theorem aEk {xs:List aF}{a b:Int}{n:Nat} (h:b=a):wi xs a n b=true:=by
  cases n <;> simp [wi,h]
theorem aJo {xs:List aF}{a b:Int}{n k:Nat}{e:bV} (hn:0<n) (he:(aH xs b)[k]? =some e) (h:wi xs a (n - 1) e.ino=true):wi xs a n b=true:=by
  obtain⟨m,rfl⟩:∃m,n=m+1:=⟨n - 1,by omega⟩
  simp only [wi,Bool.or_eq_true]
  exact .inr (List.any_eq_true.2 ⟨e,List.mem_of_getElem? he,by simpa using h⟩)
theorem yK {xs:List aF}{a b:Int}{n:Nat} (h:¬b=a) (hk:n=0∨∀(j:Nat) (e:bV),(aH xs b)[j]? =some e→wi xs a (n - 1) e.ino=false):wi xs a n b=false:=by
  cases n with
  | zero=>simp [wi,h]
  | succ m=>
    have hk':=hk.resolve_left (by omega)
    simp only [wi,Bool.or_eq_false_iff,decide_eq_false h,true_and]
    rw [List.any_eq_false]
    intro e he
    obtain⟨j,hj⟩:=List.mem_iff_getElem?.1 he
    have:=hk' j e hj
    simpa using this
end Go.Proofs.YtmejbfmhaoilmaaGreat
/- What is proved: small laws for what draws numbers from bytes. No condition. -/
namespace Go.Proofs.YtmejbfmhaoilmaaGreat
open Go Go.RowKit
theorem jT {x n:Int} (hx:0≤x) (hn:1≤n):0≤Int.tmod x n∧Int.tmod x n<n:=
  ⟨Int.tmod_nonneg _ hx,Int.tmod_lt_of_pos _ (by omega)⟩
theorem aHg {x n:Int} (hx:0≤x) (hn:1≤n):0≤x / n∧x / n≤x:=
  ⟨Int.ediv_nonneg hx (by omega),Int.ediv_le_self _ hx⟩
theorem mD {α:Type}{K:Kd α}{e by_:Nat}{w:World}{F:Bs}{xs:List α}{A:Option Addr}{c:Nat} (h:(bN e by_ K).ro w F xs [.slice A xs.length c]):xs.length≤c∧c≤9223372036854775807∧xs.length * by_≤140737488355328:=by
  obtain⟨A',c',hv,h1,h2,h3,_⟩:=aD h
  cases hv
  exact⟨h1,h2,h3⟩
end Go.Proofs.YtmejbfmhaoilmaaGreat
/- What is proved: the names that are drawn have no fault. No condition. -/
namespace Go.Proofs.YtmejbfmhaoilmaaGreat
open Go
theorem aE5:∀s:ByteArray,s∈([⟨#[97]⟩,⟨#[98]⟩,⟨#[99]⟩,⟨#[100]⟩,⟨#[97,98]⟩,⟨#[104,97,108,108]⟩]:List ByteArray)→cK s=0:=by decide
theorem rJ:∀s:ByteArray,s∈([⟨#[97]⟩,⟨#[97,98]⟩,⟨#[98]⟩,⟨#[99]⟩,⟨#[104,97,108,108]⟩]:List ByteArray)→s.size≤4:=by decide
theorem yW:∀s:ByteArray,s∈([⟨#[97]⟩,⟨#[97,98]⟩,⟨#[98]⟩,⟨#[99]⟩,⟨#[104,97,108,108]⟩]:List ByteArray)→s.size≤140737488351232:=by decide
theorem gU:∀s:ByteArray,s∈([⟨#[47,97]⟩,⟨#[47,98]⟩,⟨#[47,99]⟩]:List ByteArray)→s.size≤140737488351232:=by decide
end Go.Proofs.YtmejbfmhaoilmaaGreat
/- What is proved: three that act are ready in a region that draws: any may be the next. No condition. -/
namespace Go.Proofs.YtmejbfmhaoilmaaGreat
open Go Go.RowKit
section
variable {N:Nat}{w0:World}{S0:Bs}{F:Act→World→Prop}{T:eY}{l lk:List Asn}{P:Program}{Q:Exit→Act→World→Prop}{K:Act→World→Prop}{ops:Array Oper}{last:Nat}
end
end Go.Proofs.YtmejbfmhaoilmaaGreat
/- What is proved: an element of a row of one's own, a struct, is read whole. No condition. -/
namespace Go.Proofs.YtmejbfmhaoilmaaGreat
open Go Go.RowKit
set_option linter.unusedVariables false
section
variable {w0:World}{S0:Bs}{l l':List Asn}
end
end Go.Proofs.YtmejbfmhaoilmaaGreat
/- What is proved: an inode read back from its words, in plain Lean. No condition. -/
namespace Go.Proofs.YtmejbfmhaoilmaaGreat
open Go Go.RowKit
set_option linter.unusedVariables false
set_option linter.unusedSimpArgs false
end Go.Proofs.YtmejbfmhaoilmaaGreat
/- What is proved: how long what is packed gets, of inodes that may be faulty; packed and unpacked again. Plain Lean. No condition. -/
namespace Go.Proofs.YtmejbfmhaoilmaaGreat
open Go Go.RowKit
set_option linter.unusedVariables false
set_option linter.unusedSimpArgs false
end Go.Proofs.YtmejbfmhaoilmaaGreat
/- What is proved: small laws for drawn inodes. No condition. -/
namespace Go.Proofs.YtmejbfmhaoilmaaGreat
open Go
theorem oZ {xs:List aF}{x:aF} (h:bM xs=0) (hx:cL x=0) (hl:(xs.length:Int)≤9):bM (xs++ [x])=0:=by
  refine iE (by simp only [List.length_append,List.length_cons,List.length_nil];omega) fun j y _ hy=> ?_
  have hm:=List.mem_of_getElem? hy
  rcases List.mem_append.1 hm with hm | hm
  · exact dK h y hm
  · obtain rfl:=List.mem_singleton.1 hm;exact hx
theorem aJ1 {bs:List Int}{j:Nat}{v:Int} (h:∀b,b∈bs→0≤b∧b≤19) (hv:0≤v∧v≤19):∀b,b∈bs.set j v→0≤b∧b≤19:=fun b hb=>by
  rcases List.mem_or_eq_of_mem_set hb with hb | rfl
  · exact h b hb
  · exact hv
end Go.Proofs.YtmejbfmhaoilmaaGreat
/- What is proved: what a function owns, from some point on only read: a new base of its frame. No condition. -/
namespace Go.Proofs.YtmejbfmhaoilmaaGreat
open Go Go.RowKit
set_option linter.unusedVariables false
section
variable {N:Nat}{w0:World}{S0:Bs}{F:Act→World→Prop}{T:eY}{l:List Asn}{P:Program}
theorem Y.az {α : Type} {K : Kd α} {x : α} {cs : List Value} {l' : List Asn} (h : fK l (aG K x cs) l')
    (k:∀(w1:World) (S1:Bs),(∀{β:Type}{J:Kd β}{y:β}{ds:List Value},J.ro w0 (FF w0 S0) y ds→J.ro w1 (FF w1 S1) y ds)→K.ro w1 (FF w1 S1) x cs→(∀l w,WS w1 S1 l w→WS w0 S0 l w)→Y N w1 S1 F T l'):Y N w0 S0 F T l:=by
  intro a w h1 h2 h3 h4
  obtain⟨S,hs,hb,hf⟩:=h4.take h
  obtain⟨A,B,hc,hl,iA,iB,d⟩:=hs
  have hc':=K.own_lt (show K.own w A x cs from hc)
  have hsub:∀b,FF w0 S0 b→FF w B b∧w.heap[b]? =w0.heap[b]? :=fun b hF=>
    ⟨⟨Nat.lt_of_lt_of_le hF.1 hf.size,fun hB=>(hb b (iB b hB)).elim hF.2 (fun h=>absurd hF.1 (by omega))⟩,hf.block b hF.1 hF.2⟩
  refine k w B (fun {β} {J} {y} {ds} hr => J.ro_up (J.ro_loc hr fun b hF => (hsub b hF).2) fun b hF => (hsub b hF).1)
    (K.ro_up (K.own_ro hc') fun b hA=>⟨hA.2,fun hB=>d b hA.1 hB⟩) (fun m w' hw=> ?_) a w h1 h2 h3 ⟨B,hl,fun b hB=> .inl hB,Fr.refl _ _⟩
  obtain⟨S2,s1,s2,s3⟩:=hw
  exact⟨S2,s1,fun b hS=>(s2 b hS).elim (fun hB=>hb b (iB b hB)) (fun hle=> .inr (Nat.le_trans hf.size hle)),hf.trans s3 fun b hB=>hb b (iB b hB)⟩
theorem Y.av {w1:World}{S1:Bs}{fn:Func}{R:Value→List Asn→Prop} (hup:∀l w,WS w1 S1 l w→WS w0 S0 l w) (k:Y N w1 S1 (bodyPost P fn (aJ w1 S1 R) .ret) T l):Y N w1 S1 (bodyPost P fn (aJ w0 S0 R) .ret) T l:=fun a w h1 h2 h3 h4=>by
  obtain⟨hd,v,hr,r,m,he,hR,hw⟩:=k a w h1 h2 h3 h4
  exact⟨hd,v,hr,r,m,he,hR,hup _ _ hw⟩
end
end Go.Proofs.YtmejbfmhaoilmaaGreat
/- What is proved: values that are one's own and only read (a kind of their own): made, set aside as a new base of the frame, given back. No condition. -/
namespace Go.Proofs.YtmejbfmhaoilmaaGreat
open Go Go.RowKit
set_option linter.unusedVariables false
@[reducible] def lX {α : Type} (K : Kd α) : Kd α where
  sz:=K.sz
  pos:=K.pos
  ro:=K.ro
  own w S x cs:=K.ro w (fun b=>S b∧b<w.heap.size) x cs
  ro_len h:=K.ro_len h
  ro_one h:=K.ro_one h
  ro_up h:=K.ro_up h
  ro_loc h:=K.ro_loc h
  own_ro h:=K.ro_up h fun _ hb=>hb.1
  own_up h hs:=K.ro_up h fun b hb=>⟨hs b hb.1,hb.2⟩
  own_loc:=by
    intro w w' S x cs h hs
    refine K.ro_up (K.ro_loc h fun b hb=>hs b hb.1) fun b hb=>⟨hb.1,?_⟩
    have h1:=hs b hb.1
    rw [Array.getElem?_eq_getElem hb.2] at h1
    exact(Array.getElem?_eq_some_iff.1 h1).1
  own_lt h:=K.ro_up h fun _ hb=>⟨hb,hb.2⟩
theorem jV {α:Type}{K:Kd α}{x:α}{cs:List Value} (w:World) (S:Bs) (h:cH [aG K x cs] w S):(aG (lX K) x cs).p w S:=
  K.own_ro (K.own_lt (show K.own w S x cs from h.head (c:=aG K x cs)))
theorem zK {α : Type} {K : Kd α} {e by_ : Nat} {xs : List α} {A A' : Option Addr} {c a b : Nat} (hA : A' = (if c = a then A else Option.map (fun z => Addr.add z (a * K.sz)) A)) (h1 : a ≤ b) (h2 : b ≤ xs.length) (w : World) (S : Bs)
    (h:cH [aG (bN e by_ K) xs [.slice A xs.length c]] w S):(aG (lX (bN e by_ K)) (iP xs a b) [.slice A' (iP xs a b).length (c - a)]).p w S:=
  mQ (e:=e) (by_:=by_) (a:=a) (b:=b) hA (jV w S h) h1 h2
section
variable {N:Nat}{w0:World}{S0:Bs}{F:Act→World→Prop}{T:eY}{l:List Asn}{P:Program}
theorem WS.w {α:Type}{K:Kd α}{e by_:Nat}{xs:List α}{v:Value}{l':List Asn} (ht:fK l (aG (lX (bN e by_ K)) xs [v]) l'):∀w,WS w0 S0 l w→∃A c,v= .slice A xs.length c∧xs.length≤c∧c≤9223372036854775807∧xs.length * by_≤140737488355328:=fun w hw=>by
  obtain⟨S,hs,_,_⟩:=hw.take ht
  have h:(bN e by_ K).ro w (fun b=>S b∧b<w.heap.size) xs [v]:=hs.head (c:=aG (lX (bN e by_ K)) xs [v])
  obtain⟨A,c,h1,h2,h3,h4,_⟩:=aD h
  exact⟨A,c,h1,h2,h3,h4⟩
theorem Y.a0 {α : Type} {K : Kd α} {x : α} {cs : List Value} {l' : List Asn} (h : fK l (aG (lX K) x cs) l')
    (k:∀(w1:World) (S1:Bs),(∀{β:Type}{J:Kd β}{y:β}{ds:List Value},J.ro w0 (FF w0 S0) y ds→J.ro w1 (FF w1 S1) y ds)→K.ro w1 (FF w1 S1) x cs→(∀l w,WS w1 S1 l w→WS w0 S0 l w)→Y N w1 S1 F T l'):Y N w0 S0 F T l:=Y.az h k
theorem Y.a2 {α : Type} {K : Kd α} {x : α} {cs : List Value} {l' : List Asn} (h : fK l (aG (lX K) x cs) l')
    (k:∀(w1:World) (S1:Bs),(∀{β:Type}{J:Kd β}{y:β}{ds:List Value},J.ro w0 (FF w0 S0) y ds→J.ro w1 (FF w1 S1) y ds)→K.ro w1 (FF w1 S1) x cs→(∀l w,WS w1 S1 l w→WS w0 S0 (aG (lX K) x cs :: l) w)→Y N w1 S1 F T l'):Y N w0 S0 F T l:=by
  intro a w h1 h2 h3 h4
  obtain⟨S,hs,hb,hf⟩:=h4.take h
  obtain⟨A,B,hc,hl,iA,iB,d⟩:=hs
  have hc':K.ro w (fun b=>A b∧b<w.heap.size) x cs:=hc
  have hsub:∀b,FF w0 S0 b→FF w B b∧w.heap[b]? =w0.heap[b]? :=fun b hF=>
    ⟨⟨Nat.lt_of_lt_of_le hF.1 hf.size,fun hB=>(hb b (iB b hB)).elim hF.2 (fun h=>absurd hF.1 (by omega))⟩,hf.block b hF.1 hF.2⟩
  refine k w B (fun {β} {J} {y} {ds} hr => J.ro_up (J.ro_loc hr fun b hF => (hsub b hF).2) fun b hF => (hsub b hF).1)
    (K.ro_up hc' fun b hA=>⟨hA.2,fun hB=>d b hA.1 hB⟩) (fun m w' hw=> ?_) a w h1 h2 h3 ⟨B,hl,fun b hB=> .inl hB,Fr.refl _ _⟩
  obtain⟨S2,s1,s2,s3⟩:=hw
  refine⟨fun b=>(A b∧b<w.heap.size)∨S2 b,⟨fun b=>A b∧b<w.heap.size,S2,?_,s1,fun b h=> .inl h,fun b h=> .inr h,fun b hA hS=> ?_⟩,fun b hS=> ?_,hf.trans s3 fun b hB=>hb b (iB b hB)⟩
  · show K.ro w' (fun b => (A b ∧ b < w.heap.size) ∧ b < w'.heap.size) x cs
    exact K.ro_up (K.ro_loc hc' fun b hb=>s3.block b hb.2 (fun hB=>d b hb.1 hB)) fun b hb=>⟨hb,Nat.lt_of_lt_of_le hb.2 s3.size⟩
  · exact(s2 b hS).elim (fun hB=>d b hA.1 hB) (fun hle=>by have:=hA.2;omega)
  · exact hS.elim (fun hA=>hb b (iA b hA.1)) (fun hS=>(s2 b hS).elim (fun hB=>hb b (iB b hB)) (fun hle=> .inr (Nat.le_trans hf.size hle)))
theorem Y.a5 {w1:World}{S1:Bs}{fn:Func}{R:Value→List Asn→Prop} (m:List Asn) (hup:∀l w,WS w1 S1 l w→WS w0 S0 (m++l) w) (k:Y N w1 S1 (bodyPost P fn (aJ w1 S1 (fun r l=>R r (m++l))) .ret) T l):Y N w1 S1 (bodyPost P fn (aJ w0 S0 R) .ret) T l:=fun a w h1 h2 h3 h4=>by
  obtain⟨hd,v,hr,r,q,he,hR,hw⟩:=k a w h1 h2 h3 h4
  exact⟨hd,v,hr,r,m++q,he,hR,hup _ _ hw⟩
end
end Go.Proofs.YtmejbfmhaoilmaaGreat
/- What is proved: results of which one lies in memory. No condition. -/
namespace Go.Proofs.YtmejbfmhaoilmaaGreat
open Go Go.RowKit
set_option linter.unusedVariables false
set_option linter.unusedSimpArgs false
section
variable {w0:World}{S0:Bs}{T:eY}{l:List Asn}{P:Program}
theorem aI9 {fn : Func} {s ty u : Nat} {ad : Addr} {cs : List Value} {v : Value} (hr : fn.results = #[.cell s ty, .tmp u]) (h : Get T (s, .pointer (some ad))) (hg : eO P ty true) (hi : (P.info? ty).map (·.size) = some cs.length)
    (hc:∀w,WS w0 S0 l w→∀(i:Nat) (u:Value),cs[i]? =some u→w.cell? (ad.add i)=some u) (k:Get T (u,v)):∀(a:Act) (w:World),Holds T a→WS w0 S0 l w→(results fn a.tmps).run P w= .ok (.tuple #[.agg cs.toArray,v]) w:=fun a w ha hw=>by
  obtain⟨d,ht,hd⟩:=hg.ex
  have hag:=mG ht w
  rw [hd] at hag
  obtain⟨i0,h1,h2⟩:=Option.map_eq_some_iff.1 hi
  have hl:=run_loadCells_list (P:=P) w ad cs (hc w hw)
  have e1:=iO h ha
  have e2:=iO k ha
  simp only [Array.getD_eq_getD_getElem?] at e1 e2
  simp [results,hr,e1,e2,asAddr,loadVar,Sem.run_bind,hag,sizeOf,typeInfo,h1,h2,hl]
theorem aB2 {fn : Func} {s ty u0 u1 u2 : Nat} {ad : Addr} {cs : List Value} {v0 v1 v2 : Value} (hr : fn.results = #[.cell s ty, .tmp u0, .tmp u1, .tmp u2]) (h : Get T (s, .pointer (some ad))) (hg : eO P ty true) (hi : (P.info? ty).map (·.size) = some cs.length)
    (hc:∀w,WS w0 S0 l w→∀(i:Nat) (u:Value),cs[i]? =some u→w.cell? (ad.add i)=some u) (k0:Get T (u0,v0)) (k1:Get T (u1,v1)) (k2:Get T (u2,v2)):∀(a:Act) (w:World),Holds T a→WS w0 S0 l w→(results fn a.tmps).run P w= .ok (.tuple #[.agg cs.toArray,v0,v1,v2]) w:=fun a w ha hw=>by
  obtain⟨d,ht,hd⟩:=hg.ex
  have hag:=mG ht w
  rw [hd] at hag
  obtain⟨i0,h1,h2⟩:=Option.map_eq_some_iff.1 hi
  have hl:=run_loadCells_list (P:=P) w ad cs (hc w hw)
  have e1:=iO h ha
  have f0:=iO k0 ha
  have f1:=iO k1 ha
  have f2:=iO k2 ha
  simp only [Array.getD_eq_getD_getElem?] at e1 f0 f1 f2
  simp [results,hr,e1,f0,f1,f2,asAddr,loadVar,Sem.run_bind,hag,sizeOf,typeInfo,h1,h2,hl]
theorem aFd {fn : Func} {s ty u0 u1 u2 u3 : Nat} {ad : Addr} {cs : List Value} {v0 v1 v2 v3 : Value} (hr : fn.results = #[.cell s ty, .tmp u0, .tmp u1, .tmp u2, .tmp u3]) (h : Get T (s, .pointer (some ad))) (hg : eO P ty true) (hi : (P.info? ty).map (·.size) = some cs.length)
    (hc:∀w,WS w0 S0 l w→∀(i:Nat) (u:Value),cs[i]? =some u→w.cell? (ad.add i)=some u) (k0:Get T (u0,v0)) (k1:Get T (u1,v1)) (k2:Get T (u2,v2)) (k3:Get T (u3,v3)):∀(a:Act) (w:World),Holds T a→WS w0 S0 l w→(results fn a.tmps).run P w= .ok (.tuple #[.agg cs.toArray,v0,v1,v2,v3]) w:=fun a w ha hw=>by
  obtain⟨d,ht,hd⟩:=hg.ex
  have hag:=mG ht w
  rw [hd] at hag
  obtain⟨i0,h1,h2⟩:=Option.map_eq_some_iff.1 hi
  have hl:=run_loadCells_list (P:=P) w ad cs (hc w hw)
  have e1:=iO h ha
  have f0:=iO k0 ha
  have f1:=iO k1 ha
  have f2:=iO k2 ha
  have f3:=iO k3 ha
  simp only [Array.getD_eq_getD_getElem?] at e1 f0 f1 f2 f3
  simp [results,hr,e1,f0,f1,f2,f3,asAddr,loadVar,Sem.run_bind,hag,sizeOf,typeInfo,h1,h2,hl]
end
end Go.Proofs.YtmejbfmhaoilmaaGreat
/- What is proved: what can be reached is there; what is read in two parts is what is read in one; plain Lean. No condition. -/
namespace Go.Proofs.YtmejbfmhaoilmaaGreat
open Go Go.RowKit
set_option linter.unusedVariables false
set_option linter.unusedSimpArgs false
theorem aGh {L:List UInt8}{i n:Int} (hi:0≤i) (hn:0≤n):((oU L i n).length:Int)≤n:=by
  unfold oU
  have e1:=gB i (L.length:Int)
  have e5:=gB (L.length:Int) (dS i L.length+n)
  rw [fW (by omega)]
  omega
end Go.Proofs.YtmejbfmhaoilmaaGreat
/- What is proved: a file whose bytes are set anew leaves a file system whole, and no other file turns; plain Lean. No condition. -/
namespace Go.Proofs.YtmejbfmhaoilmaaGreat
open Go Go.RowKit
set_option linter.unusedVariables false
set_option linter.unusedSimpArgs false
structure aFs (xs : List aF) : Prop where
  one:∀(i:Nat) x,xs[i]? =some x→x.blocks.Nodup
  two:∀(i k:Nat) x y b,xs[i]? =some x→xs[k]? =some y→b∈x.blocks→b∈y.blocks→i=k
theorem yS {xs:List aF}:(eW xs).Nodup↔aFs xs:=by
  unfold eW List.Nodup
  rw [List.pairwise_flatten,List.pairwise_iff_getElem]
  constructor
  · rintro ⟨h1, h2⟩
    have h3:∀(i k:Nat) x y b,i<k→xs[i]? =some x→xs[k]? =some y→b∈x.blocks→b∈y.blocks→False:=fun i k x y b hik hx hy hb hb2=>by
      obtain⟨li,ei⟩:=List.getElem?_eq_some_iff.1 hx
      obtain⟨lk,ek⟩:=List.getElem?_eq_some_iff.1 hy
      have:=h2 i k (by rw [List.length_map];exact li) (by rw [List.length_map];exact lk) hik b (by rw [List.getElem_map,ei];exact hb) b (by rw [List.getElem_map,ek];exact hb2)
      exact this rfl
    refine⟨fun i x hx=>h1 _ (List.mem_map.2 ⟨x,List.mem_of_getElem? hx,rfl⟩),fun i k x y b hx hy hb hb2=> ?_⟩
    rcases Nat.lt_trichotomy i k with h | h | h
    · exact(h3 i k x y b h hx hy hb hb2).elim
    · exact h
    · exact(h3 k i y x b h hy hx hb2 hb).elim
  · intro h
    refine⟨fun l hl=> ?_,fun i k hi hk hik b hb c hc e=> ?_⟩
    · obtain ⟨x, hx, rfl⟩ := List.mem_map.1 hl
      obtain⟨i,hi⟩:=List.mem_iff_getElem?.1 hx
      exact h.one i x hi
    · subst e
      rw [List.length_map] at hi hk
      rw [List.getElem_map] at hb hc
      have:=h.two i k _ _ b (List.getElem?_eq_getElem hi) (List.getElem?_eq_getElem hk) hb hc
      omega
theorem pL {xs:List aF}{b:Int}:b∈eW xs↔∃(i:Nat) (x:aF),xs[i]? =some x∧b∈x.blocks:=by
  unfold eW
  rw [List.mem_flatten]
  constructor
  · rintro ⟨l, hl, hb⟩
    obtain⟨x,hx,rfl⟩:=List.mem_map.1 hl
    obtain⟨i,hi⟩:=List.mem_iff_getElem?.1 hx
    exact⟨i,x,hi,hb⟩
  · rintro ⟨i, x, hx, hb⟩
    exact⟨_,List.mem_map.2 ⟨x,List.mem_of_getElem? hx,rfl⟩,hb⟩
theorem lD {α:Type}{l:List α}{j k:Nat}{v:α} (hj:j<l.length):(l.set j v)[k]? =if j=k then some v else l[k]? :=by
  by_cases h:j=k
  · subst h;simp [hj]
  · simp [h]
theorem yP {α:Type}{l:List α}{i k:Nat}{b:α} (h:l.Nodup) (hi:l[i]? =some b) (hk:l[k]? =some b):i=k:=
  (List.getElem?_inj (List.getElem?_eq_some_iff.1 hi).1 h).1 (hi.trans hk.symm)
theorem rQ {x : aF} {L : List Int} {j : Nat} : ∀ q, (∀ b, b ∈ x.blocks → b.toNat ≠ j) → (hZ x L q)[j]? = L[j]?
  | 0,_=>rfl
  | q+1,h=>by
    simp only [hZ]
    cases hb:x.blocks[q]? with
    | none=>exact rQ q h
    | some b=>dsimp only;rw [List.getElem?_set_ne (h b (List.mem_of_getElem? hb))];exact rQ q h
theorem xL {x : aF} {L : List Int} {i : Nat} {b : Int} (hn : x.blocks.Nodup) (hr : ∀ b, b ∈ x.blocks → 0 ≤ b ∧ b ≤ 19) (hL : L.length = 20) (hb : x.blocks[i]? = some b) : ∀ q, i < q → (hZ x L q)[b.toNat]? = some (dS 8 (x.size - ((i * 8 : Nat) : Int)))
  | 0,h=>by omega
  | q+1,h=>by
    simp only [hZ]
    have hbr:=hr b (List.mem_of_getElem? hb)
    by_cases hq:q=i
    · subst hq
      rw [hb]
      dsimp only
      rw [lD (by rw [eF];omega),if_pos rfl]
    · cases hc:x.blocks[q]? with
      | none=>exact xL hn hr hL hb q (by omega)
      | some c=>
        dsimp only
        have hcr:=hr c (List.mem_of_getElem? hc)
        have hne:c≠b:=fun e=>by
          subst e
          exact hq (yP hn hc hb)
        rw [List.getElem?_set_ne (by omega)]
        exact xL hn hr hL hb q (by omega)
theorem nU {xs : List aF} {j : Nat} (hr : ∀ (i : Nat) x, xs[i]? = some x → ∀ b, b ∈ x.blocks → 0 ≤ b ∧ b ≤ 19) (h : ∀ (i : Nat) x b, xs[i]? = some x → b ∈ x.blocks → b.toNat ≠ j) (hj : j < 20) : ∀ k, (dN xs k)[j]? = some 0
  | 0=>by
    show(List.replicate 20 (0:Int))[j]? =some 0
    rw [List.getElem?_replicate,if_pos hj]
  | k+1=>by
    simp only [dN]
    cases hx:xs[k]? with
    | none=>exact nU hr h hj k
    | some x=>dsimp only;rw [rQ _ (fun b hb=>h k x b hx hb)];exact nU hr h hj k
theorem pJ {xs : List aF} {i q : Nat} {x : aF} {b : Int} (ha : aFs xs) (hr : ∀ (i : Nat) x, xs[i]? = some x → ∀ b, b ∈ x.blocks → 0 ≤ b ∧ b ≤ 19) (hx : xs[i]? = some x) (hb : x.blocks[q]? = some b) : ∀ k, i < k → (dN xs k)[b.toNat]? = some (dS 8 (x.size - ((q * 8 : Nat) : Int)))
  | 0,h=>by omega
  | k+1,h=>by
    simp only [dN]
    by_cases hk:k=i
    · subst hk
      rw [hx]
      dsimp only
      exact xL (ha.one _ x hx) (hr _ x hx) (cF k) hb _ (List.getElem?_eq_some_iff.1 hb).1
    · cases hy:xs[k]? with
      | none=>exact pJ ha hr hx hb k (by omega)
      | some y=>
        dsimp only
        have hm:=List.mem_of_getElem? hb
        rw [rQ _ (fun c hc e=>by
          have h1:=hr k y hy c hc
          have h2:=hr i x hx b hm
          have h3:c=b:=by omega
          subst h3
          exact hk (ha.two k i y x c hy hx hc hm))]
        exact pJ ha hr hx hb k (by omega)
theorem tY {data : List (List UInt8)} {bs : List Int} {j : Nat} (h : ∀ b, b ∈ bs → b.toNat ≠ j) : ∀ k, (lO data bs k)[j]? = data[j]?
  | 0=>rfl
  | k+1=>by
    simp only [lO]
    cases hb:bs[k]? with
    | none=>exact tY h k
    | some b=>dsimp only;rw [List.getElem?_set_ne (h b (List.mem_of_getElem? hb))];exact tY h k
theorem xF {data : List (List UInt8)} {bs : List Int} {i : Nat} {b : Int} (hb : bs[i]? = some b) (hl : b.toNat < data.length) : ∀ k, i < k → (lO data bs k)[b.toNat]? = some []
  | 0,h=>by omega
  | k+1,h=>by
    simp only [lO]
    by_cases hk:k=i
    · subst hk;rw [hb];dsimp only;rw [lD (by rw [iI];exact hl),if_pos rfl]
    · cases hc:bs[k]? with
      | none=>exact xF hb hl k (by omega)
      | some c=>
        dsimp only
        by_cases e:c.toNat=b.toNat
        · rw [lD (by rw [iI];omega),if_pos e]
        · rw [List.getElem?_set_ne e];exact xF hb hl k (by omega)
theorem sY {data : List (List UInt8)} {bs : List Int} {L : List UInt8} {j : Nat} (h : ∀ b, b ∈ bs → b.toNat ≠ j) : ∀ k, (oB data bs L k)[j]? = data[j]?
  | 0=>rfl
  | k+1=>by
    simp only [oB]
    cases hb:bs[k]? with
    | none=>exact sY h k
    | some b=>dsimp only;rw [List.getElem?_set_ne (h b (List.mem_of_getElem? hb))];exact sY h k
theorem zX {data : List (List UInt8)} {bs : List Int} {L : List UInt8} {i : Nat} {b : Int} (hn : bs.Nodup) (hr : ∀ b, b ∈ bs → 0 ≤ b) (hb : bs[i]? = some b) (hl : b.toNat < data.length) : ∀ k, i < k → (oB data bs L k)[b.toNat]? = some (mF L i)
  | 0,h=>by omega
  | k+1,h=>by
    simp only [oB]
    by_cases hk:k=i
    · subst hk;rw [hb];dsimp only;rw [lD (by rw [oA];exact hl),if_pos rfl]
    · cases hc:bs[k]? with
      | none=>exact zX hn hr hb hl k (by omega)
      | some c=>
        dsimp only
        have hne:c≠b:=fun e=>by
          subst e
          exact hk (yP hn hc hb)
        have h5:=hr b (List.mem_of_getElem? hb)
        have h6:=hr c (List.mem_of_getElem? hc)
        rw [List.getElem?_set_ne (by omega)]
        exact zX hn hr hb hl k (by omega)
theorem yJ {L:List UInt8}{k:Nat}:(mF L k).length=min ((k+1) * 8) L.length - k * 8:=by
  unfold mF iP
  rw [List.length_drop,List.length_take]
  omega
theorem aGj {L : List UInt8} : ∀ m, ((List.range m).map (mF L)).flatten = L.take (m * 8)
  | 0=>by simp
  | m+1=>by
    rw [List.range_succ,List.map_append,List.flatten_append,aGj m]
    simp only [List.map_cons,List.map_nil,List.flatten_cons,List.flatten_nil,List.append_nil]
    unfold mF iP
    by_cases h:(m+1) * 8≤L.length
    · rw [Nat.min_eq_left h]
      have:=List.take_append_drop (m * 8) (L.take ((m+1) * 8))
      rw [List.take_take,Nat.min_eq_left (by omega)] at this
      exact this
    · rw [Nat.min_eq_right (by omega),List.take_length,List.take_append_drop,List.take_of_length_le (by omega)]
theorem aCh {data:List (List UInt8)}{b:Int}{d:List UInt8} (h:data[b.toNat]? =some d):pA data b=d:=by
  unfold pA;rw [List.getD_eq_getElem?_getD,h];rfl
theorem aJq {x:aF} (h:cL x=0) (hk:x.kind=1):((1≤x.links∧x.links≤60)∧(0≤x.size∧x.size≤32))∧x.ents.length=0:=by
  unfold cL at h
  rw [if_pos (by omega)] at h
  split at h
  · exact absurd h (by decide)
  · rename_i h1
    unfold gJ at h
    split at h
    · rename_i h2;exact⟨h2,by omega⟩
    · exact absurd h (by decide)
theorem aCl {xs ys:List aF} (h:∀(i:Nat) y,ys[i]? =some y→∃x,xs[i]? =some x∧y.ents=x.ents) {i:Nat} (hr:nR ys 0 i):nR xs 0 i:=by
  induction hr with
  | refl=>exact .refl
  | step _ hy he ih=>
    obtain⟨x,hx,e⟩:=h _ _ hy
    exact .step ih hx (e ▸ he)
theorem aHk {xs:List aF}{busy:List Int}{n:Int} (h:(hY xs busy n).code=0):(hY xs busy n).list.Nodup∧((∀b,b∈(hY xs busy n).list→¬b∈eW xs∧¬b∈busy)):=by
  unfold hY at h ⊢
  split
  · rename_i h1
    rw [if_pos h1] at h
    split
    · rename_i h2;rw [if_pos h2] at h;exact absurd h (by decide)
    · refine ⟨(List.Pairwise.imp (fun h => by omega) aBr).sublist (List.take_sublist _ _), fun b hb => ?_⟩
      exact of_decide_eq_true (pX.1 (List.mem_of_mem_take hb)).2
  · rename_i h1;rw [if_neg h1] at h;exact absurd h (by decide)
structure aIz (f g : DFs) (a : Int) (L : List UInt8) : Prop where
  ok:eQ g=0
  same:bO g a=⟨0,L⟩
  rest:∀i:Int,0≤i→i≠a→bO g i=bO f i
  len:g.inodes.length=f.inodes.length
theorem aHn {f:DFs}{a:Int}{L:List UInt8}{ws:List Int} (hb:bX f a=0) (hL:L.length≤32) (hl:(ws.length:Int)=((L.length:Int)+7) / 8) (hr:∀b,b∈ws→0≤b∧b≤19) (hn:ws.Nodup) (hu:∀b,b∈ws→¬b∈eW f.inodes):aIz f (kK f a L ws) a L:=by
  obtain⟨hF,hp,hk2,hk0⟩:=oY hb
  obtain⟨ht,hlk,hda⟩:=aMn hF
  have hI:=kH ht
  obtain⟨hrt,hbd,hus,hbe⟩:=rI ht
  obtain⟨-,hpos,hroot,h20⟩:=sJ hrt
  have hap:=yS.1 hus
  have hbl:∀(i:Nat) x,f.inodes[i]? =some x→∀b,b∈x.blocks→0≤b∧b≤19:=fun i x hx=>(kB (dK hI x (List.mem_of_getElem? hx))).2
  unfold bZ at hp
  obtain⟨x,hx⟩:∃x,f.inodes[a.toNat]? =some x:=⟨_,List.getElem?_eq_getElem (by omega)⟩
  have hk1:x.kind=1:=by
    rw [dC hx (by omega)] at hk2 hk0
    have:=aAj (dK hI x (List.mem_of_getElem? hx))
    omega
  have hfo:=aJq (dK hI x (List.mem_of_getElem? hx)) hk1
  have hin:(kK f a L ws).inodes=f.inodes.set a.toNat ⟨x.kind,x.links,L.length,ws,x.ents⟩:=by
    show qH f.inodes a L.length ws=_
    unfold qH;rw [hx]
  have hget:∀i:Nat,(kK f a L ws).inodes[i]? =if a.toNat=i then some ⟨x.kind,x.links,L.length,ws,x.ents⟩else f.inodes[i]? :=fun i=>by
    rw [hin,lD (by omega)]
  have hlen:(kK f a L ws).inodes.length=f.inodes.length:=by rw [hin,List.length_set]
  have hback:∀(i:Nat) y,(kK f a L ws).inodes[i]? =some y→∃z,f.inodes[i]? =some z∧y.kind=z.kind∧y.links=z.links∧y.ents=z.ents:=fun i y hy=>by
    rw [hget] at hy
    split at hy
    · rename_i e;subst e;exact⟨x,hx,by obtain rfl:=Option.some.inj hy;exact⟨rfl,rfl,rfl⟩⟩
    · exact⟨y,hy,rfl,rfl,rfl⟩
  have hforth:∀(i:Nat) z,f.inodes[i]? =some z→∃y,(kK f a L ws).inodes[i]? =some y∧z.ents=y.ents:=fun i z hz=>by
    rw [hget]
    split
    · rename_i e;subst e;rw [hx] at hz;obtain rfl:=Option.some.inj hz;exact⟨_,rfl,rfl⟩
    · exact⟨z,hz,rfl⟩
  have hkind:∀i:Int,bF (kK f a L ws).inodes i=bF f.inodes i:=fun i=>by
    unfold bF
    rw [hget]
    split
    · rename_i h; split at h
      · rename_i e;rw [←e,hx];obtain rfl:=Option.some.inj h;rfl
      · rw [h]
    · rename_i h; split at h
      · cases h
      · rw [h]
  have hI':bM (kK f a L ws).inodes=0:=iE (by rw [hlen];have:=kW hI;omega) fun j y _ hy=>by
    rw [hget] at hy
    split at hy
    · obtain rfl := Option.some.inj hy
      rw [cI (x:=⟨x.kind,x.links,L.length,ws,x.ents⟩) hk1 hfo.2]
      refine cU ⟨hfo.1.1,by dsimp only;omega⟩ hl ?_ hn
      exact oG fun j b _ hb=>hr b (List.mem_of_getElem? hb)
    · exact dK hI y (List.mem_of_getElem? hy)
  have hap':aFs (kK f a L ws).inodes:=by
    refine⟨fun i y hy=> ?_,fun i k y z b hy hz h1 h2=> ?_⟩
    · rw [hget] at hy
      split at hy
      · obtain rfl:=Option.some.inj hy;exact hn
      · exact hap.one i y hy
    · rw [hget] at hy hz
      split at hy
      · rename_i ei
        split at hz
        · rename_i ek;omega
        · obtain rfl := Option.some.inj hy
          exact absurd (pL.2 ⟨k,z,hz,h2⟩) (hu b h1)
      · split at hz
        · obtain rfl := Option.some.inj hz
          exact absurd (pL.2 ⟨i,y,hy,h1⟩) (hu b h2)
        · exact hap.two i k y z b hy hz h1 h2
  have hbl':∀(i:Nat) x,(kK f a L ws).inodes[i]? =some x→∀b,b∈x.blocks→0≤b∧b≤19:=fun i x hx=>(kB (dK hI' x (List.mem_of_getElem? hx))).2
  have hba:eN f.inodes a=x.blocks:=lQ hx (by omega)
  have hdl:(kK f a L ws).data.length=20:=by show(oB (gD f a) ws L ws.length).length=20;rw [oA,iI];exact h20
  have hdin:∀(q:Nat) b,ws[q]? =some b→(kK f a L ws).data[b.toNat]? =some (mF L q):=fun q b hq=>by
    have h1:=hr b (List.mem_of_getElem? hq)
    exact zX hn (fun b hb=>(hr b hb).1) hq (by rw [iI];omega) _ (List.getElem?_eq_some_iff.1 hq).1
  have hdold:∀b:Int,b∈x.blocks→¬b∈ws→(kK f a L ws).data[b.toNat]? =some []:=fun b hm hw=>by
    have h1:=hbl _ x hx b hm
    obtain⟨q,hq⟩:=List.mem_iff_getElem?.1 hm
    show(oB (gD f a) ws L ws.length)[b.toNat]? =_
    rw [sY (fun c hc e=>by have:=hr c hc;exact hw (by rw [show b=c by omega];exact hc))]
    show(lO f.data (eN f.inodes a) (eN f.inodes a).length)[b.toNat]? =_
    rw [hba]
    exact xF hq (by omega) _ (List.getElem?_eq_some_iff.1 hq).1
  have hdout:∀b:Int,0≤b→¬b∈x.blocks→¬b∈ws→(kK f a L ws).data[b.toNat]? =f.data[b.toNat]? :=fun b h0 hm hw=>by
    show(oB (gD f a) ws L ws.length)[b.toNat]? =_
    rw [sY (fun c hc e=>by have:=hr c hc;exact hw (by rw [show b=c by omega];exact hc))]
    show(lO f.data (eN f.inodes a) (eN f.inodes a).length)[b.toNat]? =_
    rw [hba]
    exact tY (fun c hc e=>by have:=hbl _ x hx c hc;exact hm (by rw [show b=c by omega];exact hc)) _
  have hshl:∀q:Nat,q<ws.length→((mF L q).length:Int)=dS 8 ((L.length:Int) - ((q * 8:Nat):Int)):=fun q hq=>by
    rw [yJ]
    have:=gB 8 ((L.length:Int) - ((q * 8:Nat):Int))
    omega
  have ht':bL (kK f a L ws)=0:=by
    refine fE (cE hI' (by rw [hlen];omega) (by rw [hkind];exact hroot) hdl) (gR fun j b hj hb8=> ?_) (yS.2 hap') (jH fun j y _ hy k e he hbad=> ?_)
    · by_cases hw : (j : Int) ∈ ws
      · obtain ⟨q, hq⟩ := List.mem_iff_getElem?.1 hw
        have h1:=hdin q _ hq
        rw [Int.toNat_natCast,hb8] at h1
        obtain rfl:=Option.some.inj h1
        rw [yJ];omega
      · by_cases hm : (j : Int) ∈ x.blocks
        · have h1 := hdold _ hm hw
          rw [Int.toNat_natCast,hb8] at h1
          obtain rfl:=Option.some.inj h1
          decide
        · have h1 := hdout (j : Int) (by omega) hm hw
          rw [Int.toNat_natCast,hb8] at h1
          have:=uH ht b (List.mem_of_getElem? h1.symm)
          omega
    · obtain ⟨z, hz, -, -, e2⟩ := hback j y hy
      have h1:=uV ht j z hz k e (e2 ▸ he)
      exact h1 (by show bF f.inodes e.ino=0;rw [←hkind];exact hbad)
  have hlof:∀i:Int,fQ (kK f a L ws).inodes i=fQ f.inodes i:=fun i=>by
    have:=rB (gO i) (y:=⟨x.kind,x.links,L.length,ws,x.ents⟩) hx
    rw [←hin] at this
    unfold fQ
    have e:gO i ⟨x.kind,x.links,L.length,ws,x.ents⟩=gO i x:=rfl
    omega
  have hlk':kI (kK f a L ws):=fun j y hy=>by
    obtain⟨z,hz,e0,e1,e2⟩:=hback j y hy
    have h1:=hlk j z hz
    refine⟨fun h=>by rw [hlof,e1];exact h1.file (e0 ▸ h),fun h h2=>by rw [hlof];exact h1.root (e0 ▸ h) h2,fun h h2=>by rw [hlof];exact h1.dir (e0 ▸ h) h2,fun h=> ?_⟩
    have h3:=h1.way (e0 ▸ h)
    unfold lZ at h3 ⊢
    rw [pX,wJ] at h3 ⊢
    rw [hlen]
    exact⟨h3.1,aCl hforth h3.2⟩
  have hda':mE (kK f a L ws):=fun j b hjb=>by
    have hj:j<20:=by have:=(List.getElem?_eq_some_iff.1 hjb).1;rw [hdl] at this;exact this
    show(dN (kK f a L ws).inodes (kK f a L ws).inodes.length)[j]? =_
    by_cases hw:(j:Int)∈ws
    · obtain ⟨q, hq⟩ := List.mem_iff_getElem?.1 hw
      have h1:=hdin q _ hq
      rw [Int.toNat_natCast,hjb] at h1
      obtain rfl:=Option.some.inj h1
      have h2:=pJ hap' hbl' (i:=a.toNat) (by rw [hget,if_pos rfl]) hq (kK f a L ws).inodes.length (by rw [hlen];omega)
      rw [Int.toNat_natCast] at h2
      rw [h2,hshl q (List.getElem?_eq_some_iff.1 hq).1]
    · by_cases hm : (j : Int) ∈ x.blocks
      · have h1 := hdold _ hm hw
        rw [Int.toNat_natCast,hjb] at h1
        obtain rfl:=Option.some.inj h1
        rw [nU hbl' (fun i y c hy hc e=> ?_) hj]
        · rfl
        · have h2 := hbl' i y hy c hc
          have h3:c=(j:Int):=by omega
          subst h3
          rw [hget] at hy
          split at hy
          · obtain rfl:=Option.some.inj hy;exact hw hc
          · rename_i hne;exact hne (hap.two _ i x y _ hx hy hm hc)
      · have h1 := hdout (j : Int) (by omega) hm hw
        rw [Int.toNat_natCast,hjb] at h1
        have h2:(dN f.inodes f.inodes.length)[j]? =some (b.length:Int):=hda j b h1.symm
        by_cases hused:(j:Int)∈eW f.inodes
        · obtain ⟨i, y, hy, hc⟩ := pL.1 hused
          obtain⟨q,hq⟩:=List.mem_iff_getElem?.1 hc
          have hne:¬a.toNat=i:=fun e=>by subst e;rw [hx] at hy;obtain rfl:=Option.some.inj hy;exact hm hc
          have hi:=(List.getElem?_eq_some_iff.1 hy).1
          have h3:=pJ hap hbl hy hq f.inodes.length hi
          have h4:=pJ hap' hbl' (i:=i) (by rw [hget,if_neg hne];exact hy) hq (kK f a L ws).inodes.length (by rw [hlen];exact hi)
          rw [Int.toNat_natCast] at h3 h4
          rw [h4,←h3,h2]
        · have h3 := nU hbl (j := j) (fun i y c hy hc e => hused (pL.2 ⟨i, y, hy, by have := hbl i y hy c hc; rw [show (j : Int) = c by omega]; exact hc⟩)) hj f.inodes.length
          rw [nU hbl' (fun i y c hy hc e=> ?_) hj,←h3,h2]
          have h5:=hbl' i y hy c hc
          have h6:c=(j:Int):=by omega
          subst h6
          rw [hget] at hy
          split at hy
          · obtain rfl:=Option.some.inj hy;exact hw hc
          · exact hused (pL.2 ⟨i,y,hy,hc⟩)
  have hF':=kX ht' hlk' hda'
  have hcode:∀i:Int,bX (kK f a L ws) i=bX f i:=fun i=>by
    unfold bX
    rw [hF',hF,hlen,hkind]
  refine⟨hF',?_,fun i hi hne=> ?_,hlen⟩
  · rw [fZ (by rw [hcode]; exact hb)]
    congr 1
    unfold bB hU
    rw [lQ (hget a.toNat |>.trans (if_pos rfl)) (by omega)]
    show((ws.take ws.length).map (pA (kK f a L ws).data)).flatten=L
    rw [List.take_length,show ws.map (pA (kK f a L ws).data)=(List.range ws.length).map (mF L) from ?_,aGj,List.take_of_length_le (by omega)]
    apply List.ext_getElem?
    intro q
    rw [List.getElem?_map,List.getElem?_map]
    by_cases hq:q<ws.length
    · rw [List.getElem?_range hq, List.getElem?_eq_getElem hq]
      simp only [Option.map_some]
      rw [aCh (hdin q _ (List.getElem?_eq_getElem hq))]
    · rw [List.getElem?_eq_none (by omega), List.getElem?_eq_none (by rw [List.length_range]; omega)]
      rfl
  · by_cases hc : bX f i = 0
    · rw [fZ (by rw [hcode]; exact hc), fZ hc]
      congr 1
      unfold bB hU
      have hbi:eN (kK f a L ws).inodes i=eN f.inodes i:=by
        unfold eN
        rw [hget,if_neg (by omega)]
      rw [hbi]
      congr 1
      apply List.map_congr_left
      intro b hb2
      have hb3:=List.mem_of_mem_take hb2
      have hb4:=lP hI i b hb3
      unfold pA
      rw [List.getD_eq_getElem?_getD,List.getD_eq_getElem?_getD]
      cases hy:f.inodes[i.toNat]? with
      | none=>unfold eN at hb3;rw [hy] at hb3;cases hb3
      | some y=>
        have hb5:b∈y.blocks:=by unfold eN at hb3;rw [hy] at hb3;exact hb3
        rw [hdout b hb4.1 (fun hm=>by have:=hap.two _ _ x y b hx hy hm hb5;omega) (fun hw=>hu b hw (pL.2 ⟨_,y,hy,hb5⟩))]
    · rw [dL (by rw [hcode];exact hc),dL hc,hcode]
theorem aH8 {f:DFs}{a:Int}{L:List UInt8}{busy:List Int} (hb:bX f a=0) (hc:(sB f a L busy).code=0):
    L.length≤32∧sB f a L busy=⟨0,kK f a L (cY f L busy).list⟩∧aIz f (kK f a L (cY f L busy).list) a L∧∀b,b∈(cY f L busy).list→¬b∈eW f.inodes∧¬b∈busy:=by
  by_cases h1:(L.length:Int)≤32
  · by_cases h2 : (cY f L busy).code = 0
    · have h3 := aHk h2
      have h4:=vQ h2
      exact⟨by omega,tZ h1 h2,aHn hb (by omega) h4.2 h4.1 h3.1 (fun b hb=>(h3.2 b hb).1),h3.2⟩
    · rw [uF h1 h2] at hc;exact absurd hc h2
  · rw [xM h1] at hc;exact absurd hc (by decide)
theorem aBi {L:List UInt8}{n:Int}{j:Nat}{y:UInt8} (h:(lA L n)[j]? =some y):L[j]? =some y∨(L.length≤j∧y=0):=by
  unfold lA at h
  by_cases hj:j<L.length
  · rw [List.getElem?_append_left hj] at h;exact .inl h
  · rw [List.getElem?_append_right (by omega), List.getElem?_replicate] at h
    split at h
    · exact .inr ⟨by omega,(Option.some.inj h).symm⟩
    · cases h
theorem aC6 {f:DFs}{a i:Int}{ys:List UInt8}{busy:List Int} (hc:(aU f a i ys busy).code=0):
    eQ (aU f a i ys busy).fs=0∧(0<ys.length→i+ys.length≤((bO (aU f a i ys busy).fs a).bytes.length:Int))∧(bO f a).bytes.length≤(bO (aU f a i ys busy).fs a).bytes.length∧
    (iR (aU f a i ys busy).fs a i ys.length).bytes=ys∧
    (∀(j:Nat) y,(bO (aU f a i ys busy).fs a).bytes[j]? =some y→¬(i≤(j:Int)∧(j:Int)<i+ys.length)→(bO f a).bytes[j]? =some y∨((bO f a).bytes.length≤j∧y=0))∧
    (∀k:Int,0≤k→k≠a→bO (aU f a i ys busy).fs k=bO f k)∧(0<(bO (aU f a i ys busy).fs a).bytes.length∨ys.length=0)∧
    (0≤i∧i≤1000∧ys.length≤32)∧((bO (aU f a i ys busy).fs a).bytes.length≤32∧(bO f a).bytes.length≤32)∧(∀k,(bO f k).bytes.length≤32):=by
  by_cases hw:iX f a busy=0
  · have hb := (wOk hw).1
    have hF:=(oY hb).1
    have h32:∀k,(bO f k).bytes.length≤32:=fun k=>by
      by_cases h:bX f k=0
      · rw [fZ h];exact mJ (mK hF) k
      · rw [dL h];exact Nat.zero_le _
    have hwas:=fZ hb
    by_cases h1:0≤i∧i≤1000
    · by_cases h2 : 32 < i + ys.length
      · rw [oI hw h1 h2] at hc;exact absurd hc (by decide)
      · by_cases h3 : (ys.length : Int) = 0
        · obtain rfl : ys = [] := List.length_eq_zero_iff.1 (by omega)
          rw [oE hw h1 h2 h3]
          refine⟨hF,fun h=>absurd h (by decide),Nat.le_refl _,?_,fun j y hy _=> .inl hy,fun _ _ _=>rfl,.inr rfl,⟨h1.1,h1.2,by decide⟩,⟨h32 a,h32 a⟩,h32⟩
          rw [mY hb ⟨h1,by simp⟩]
          have:=aGh (L:=bB f a) (i:=i) (n:=(([]:List UInt8).length:Int)) h1.1 (by simp)
          exact List.length_eq_zero_iff.1 (by simp at this ⊢;exact this)
        · rw [oF hw h1 h2 h3] at hc ⊢
          obtain⟨hl,he,hok, -⟩:=aH8 hb hc
          rw [he]
          have hlen:=uA (f:=f) (a:=a) (ys:=ys) h1.1
          have hPl:(lA (bB f a) (i+ys.length)).length=(bB f a).length+((i+ys.length).toNat - (bB f a).length):=kP
          have hW:fO f a i ys=(lA (bB f a) (i+ys.length)).take i.toNat++ys++(lA (bB f a) (i+ys.length)).drop (i.toNat+ys.length):=by
            unfold fO sC;rw [List.take_length]
          have htk:((lA (bB f a) (i+ys.length)).take i.toNat).length=i.toNat:=by rw [List.length_take];omega
          have hcode:bX (kK f a (fO f a i ys) (cY f (fO f a i ys) busy).list) a=0:=by
            rw [←oT,hok.same]
          have hfb:bB (kK f a (fO f a i ys) (cY f (fO f a i ys) busy).list) a=fO f a i ys:=by
            rw [←tT hcode,hok.same]
          refine⟨hok.ok,?_,?_,?_,?_,hok.rest,?_,⟨h1.1,h1.2,by omega⟩,?_,h32⟩
          · rw [hok.same];intro _;show i+(ys.length:Int)≤((fO f a i ys).length:Int);omega
          · rw [hok.same,hwas];show(bB f a).length≤(fO f a i ys).length;omega
          · show (iR (kK f a (fO f a i ys) (cY f (fO f a i ys) busy).list) a i ys.length).bytes = ys
            rw [mY hcode ⟨h1,by omega⟩,hfb]
            show oU (fO f a i ys) i ys.length=ys
            unfold oU
            have e1:=gB i ((fO f a i ys).length:Int)
            have e2:=gB ((fO f a i ys).length:Int) (dS i ((fO f a i ys).length:Int)+ys.length)
            rw [show(dS i ((fO f a i ys).length:Int)).toNat=i.toNat by omega,show(dS ((fO f a i ys).length:Int) (dS i ((fO f a i ys).length:Int)+ys.length)).toNat=i.toNat+ys.length by omega,hW]
            unfold iP
            rw [List.take_append_of_le_length (by rw [List.length_append,htk];omega),List.take_of_length_le (by rw [List.length_append,htk];omega),List.drop_append_of_le_length (by omega),List.drop_of_length_le (by omega),List.nil_append]
          · intro j y hy hj
            rw [hok.same] at hy
            rw [hwas]
            change (fO f a i ys)[j]? =some y at hy
            show(bB f a)[j]? =some y∨((bB f a).length≤j∧y=0)
            rw [hW] at hy
            by_cases hji:j<i.toNat
            · rw [List.append_assoc, List.getElem?_append_left (by omega), List.getElem?_take, if_pos hji] at hy
              exact aBi hy
            · rw [List.getElem?_append_right (by rw [List.length_append, htk]; omega), List.length_append, htk, List.getElem?_drop, show i.toNat + ys.length + (j - (i.toNat + ys.length)) = j by omega] at hy
              exact aBi hy
          · left;rw [hok.same];show 0<(fO f a i ys).length;omega
          · rw [hok.same];exact⟨hl,h32 a⟩
    · rw [oD hw h1] at hc;exact absurd hc (by decide)
  · rw [nE hw] at hc;exact absurd hc hw
end Go.Proofs.YtmejbfmhaoilmaaGreat

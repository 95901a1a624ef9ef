/- What is proved: the library's contracts on strings, told of our kinds. No condition. -/
import Derived.Test.YtmejbfmhaoilmaaGreatDoorBase0
import Derived.Test.YtmejbfmhaoilmaaGreatDoorBase1
import Derived.Lib.Overlaps
import Derived.Lib.AppendZerosOnto
namespace Go.Proofs.YtmejbfmhaoilmaaGreatDoor
open Go Go.RowKit
set_option linter.unusedVariables false
set_option linter.unusedSimpArgs false
theorem aAr (w0:World) (S0:Bs):WS w0 S0 [] w0:=⟨fun _=>False,trivial,fun _ h=>h.elim,Fr.refl _ _⟩
theorem aGa {w:World}{a:Addr}{v:Value} (h:w.cell? a=some v):a=⟨a.block,a.off,none⟩:=by
  unfold World.cell? at h
  split at h
  · split at h
    · cases h
    · rename_i hs
      cases a with
      | mk b o s=>
        cases s with
        | none=>rfl
        | some x=>exact absurd rfl hs
  · cases h
theorem aL1 (l:List UInt8):Lib.hasPrefix l [47]=decide (l[0]? =some 47):=by
  cases l with
  | nil=>simp [Lib.hasPrefix]
  | cons b l=>
    by_cases h:b=47
    · subst h;simp [Lib.hasPrefix,List.isPrefixOf]
    · have h' : ¬ (47 : UInt8) = b := fun e => h e.symm
      simp [Lib.hasPrefix,List.isPrefixOf,h,h']
theorem aM6 (s:ByteArray):Lib.hasSuffix s.data.toList [47]=decide (s.data.toList[s.size - 1]? =some 47):=by
  rw [←iG]
  generalize s.data.toList=l
  unfold Lib.hasSuffix
  rw [List.isSuffixOf,Bool.eq_iff_iff,decide_eq_true_iff]
  have e:l[l.length - 1]? =l.reverse[0]? :=by
    cases hl:l with
    | nil=>rfl
    | cons b t=>rw [←hl,List.getElem?_reverse (by rw [hl];simp)];simp
  rw [e]
  cases l.reverse with
  | nil=>simp [List.isPrefixOf]
  | cons b t=>
    by_cases h:b=47
    · subst h;simp [List.isPrefixOf]
    · have h' : ¬ (47 : UInt8) = b := fun e => h e.symm
      simp [List.isPrefixOf,h,h']
theorem aC5 {P : Program} {f : FuncId} {w0 : World} {S0 : Bs} {s : ByteArray}
    (h1:∀(s p:ByteArray) (w:World),Calls P f #[.string s,.string p] w fun e w'=>e= .returned (.bool (Lib.hasPrefix s.data.toList p.data.toList))∧w'=w):
    Calls P f #[.string s,.string ⟨#[47]⟩] w0 (aI w0 S0 (fun r l=>r= .bool (decide (s.data.toList[0]? =some 47))∧l= [])):=
  (h1 s ⟨#[47]⟩ w0).mono fun e w' ⟨he,hw⟩=>by
    subst hw
    exact⟨_,_,he,⟨by rw [←aL1],rfl⟩,aAr _ _⟩
theorem aDy {P : Program} {f : FuncId} {w0 : World} {S0 : Bs} {s : ByteArray} (hs : s.size ≤ 140737488351232)
    (h1:∀(s p:ByteArray) (w:World),s.size≤9223372036854775807→Calls P f #[.string s,.string p] w fun e w'=>e= .returned (.bool (Lib.hasSuffix s.data.toList p.data.toList))∧w'=w):
    Calls P f #[.string s,.string ⟨#[47]⟩] w0 (aI w0 S0 (fun r l=>r= .bool (decide (s.data.toList[s.size - 1]? =some 47))∧l= [])):=
  (h1 s ⟨#[47]⟩ w0 (by omega)).mono fun e w' ⟨he,hw⟩=>by
    subst hw
    exact⟨_,_,he,⟨by rw [←aM6],rfl⟩,aAr _ _⟩
def iS (g:Nat) (w:World) (F:Bs):Prop:=∃m:Int,eV (gS .i64) w F ⟨g,0,none⟩ m
theorem iS.tr {g:Nat}{w0 w:World}{S0 S1:Bs}{lr:List Asn} (tr:Tr w0 S0 w S1 lr) (h:iS g w0 (FF w0 S0)):iS g w (FF w S1):=h.imp fun _ h=>tr.ctxP h
theorem iS.cell {g:Nat}{w:World}{F:Bs} (h:iS g w F):∃m:Int,w.cell? ⟨g,0,none⟩=some (.int .i64 m):=by
  obtain⟨m,ecs,hF,⟨rfl, -⟩,hc⟩:=h
  exact⟨m,by simpa [Addr.add] using hc 0 _ rfl⟩
theorem iS.of {g:Nat}{w:World}{F:Bs} (hF:F g) (h:∃m:Int,w.cell? ⟨g,0,none⟩=some (.int .i64 m)):iS g w F:=by
  obtain⟨m,hm⟩:=h
  refine⟨m,[.int .i64 m],hF,⟨rfl,trivial⟩,fun i u hu=> ?_⟩
  cases i with
  | zero=>simp at hu;subst hu;simpa [Addr.add] using hm
  | succ i=>simp at hu
theorem iS.a {g:Nat}{w:World} (h:∃m:Int,w.cell? ⟨g,0,none⟩=some (.int .i64 m)):iS g w (FF w (fun _=>False)):=by
  refine iS.of ⟨?_,fun h=>h⟩ h
  obtain⟨m,hm⟩:=h
  unfold World.cell? at hm
  split at hm
  · rename_i c _ _ hh
    exact(Array.getElem?_eq_some_iff.1 hh).1
  · cases hm
theorem aF4 {P : Program} {f : FuncId} {g t by_ : Nat} {w0 : World} {S0 : Bs} {s : ByteArray} (hs : s.size ≤ 1000) (hb : by_ ≤ 1000) (hG : iS g w0 (FF w0 S0))
    (h1:∀(s sep:ByteArray) (m:Int) (w:World),s.size<4294967281→w.cell? ⟨g,0,none⟩=some (.int .i64 m)→1≤sep.size→Calls P f #[.string s,.string sep] w fun e w'=>
      e= .returned (.slice (some ⟨w.heap.size,0,none⟩) (Lib.countB s sep+1) (Lib.countB s sep+1))∧w'=w.alloc (.cells ((Lib.splitB sep 0 (Lib.countB s sep) s).map Value.string).toArray t)):
    Calls P f #[.string s,.string ⟨#[47]⟩] w0 (aI w0 S0 (fun r l=>l= [aH (bM t by_ pQ) (jL s) [r]])):=by
  obtain⟨m,hm⟩:=hG.cell
  refine(h1 s ⟨#[47]⟩ m w0 (by omega) hm (by decide)).mono fun e w' ⟨he,hw⟩=> ?_
  have hl:=Lib.splitB_all (⟨#[47]⟩:ByteArray) (by decide) 0 _ s rfl
  have hc:=aDk s
  rw [hc] at hw hl
  rw [←hl] at he
  subst hw
  have h0:=(aAr w0 S0).new ((jL s).map Value.string).toArray t 1 (jL s).length (by simp)
  obtain⟨S,hst,hbs,hf⟩:=h0
  have hlen:(jL s).length≤1001:=by
    have:=aB5 s.data.toList
    rw [iG] at this
    unfold jL
    rw [List.length_map]
    omega
  have hbig:(jL s).length * by_≤1001 * 1000:=Nat.mul_le_mul hlen hb
  exact⟨_,_,he,rfl,S,cI.one (c:=aH (bM t by_ pQ) (jL s) _) (fS (xs:=jL s) (by simpa using hst) rfl (fun x hx=>by have:=rY hx;omega) (by omega) (by omega)),hbs,hf⟩
theorem aIl {P : Program} {f : FuncId} {t by_ : Nat} {w0 : World} {S0 : Bs} {xs : List ByteArray} {v : Value} (hx : (bM t by_ pQ).ro w0 (FF w0 S0) xs [v]) (hok : ∀ s, s ∈ xs → aV s = 0) (hl : xs.length ≤ 6)
    (h0:∀(a:Option Addr) (c:Nat) (sep:ByteArray) (w:World),Calls P f #[.slice a 0 c,.string sep] w fun e w'=>e= .returned (.string ⟨#[]⟩)∧w'=w)
    (h1:∀(bk o c:Nat) (xs:List ByteArray) (sep:ByteArray) (w:World),(∀(j:Nat) x,xs[j]? =some x→w.cell? ⟨bk,o+j,none⟩=some (.string x))→bk<w.heap.size→xs.length≤140737488355328→xs.length≤c→(Lib.join (xs.map (·.data.toList)) sep.data.toList).length≤140737488355328→
      Calls P f #[.slice (some ⟨bk,o,none⟩) xs.length c,.string sep] w fun e w'=>e= .returned (.string ⟨(Lib.join (xs.map (·.data.toList)) sep.data.toList).toArray⟩)∧Below w.heap.size w w'):
    Calls P f #[v,.string ⟨#[47]⟩] w0 (aI w0 S0 (fun r l=>r= .string (kR (Lib.join (xs.map (·.data.toList)) [47]))∧l= [])):=by
  obtain⟨A,c,rfl,g1,g2,g3,g4⟩:=aD hx
  cases hxs:xs with
  | nil=>
    refine(h0 A c ⟨#[47]⟩ w0).mono fun e w' ⟨he,hw⟩=> ?_
    subst hw
    exact⟨_,_,he,⟨by simp [Lib.join,kR],rfl⟩,aAr _ _⟩
  | cons y r=>
    rw [←hxs]
    obtain⟨ad,rfl,hF,hc⟩:=g4 (by rw [hxs];simp)
    have hcell:∀(j:Nat) x,xs[j]? =some x→w0.cell? (ad.add j)=some (.string x):=fun j x hx=>by
      obtain⟨ecs,⟨rfl, -⟩,h⟩:=hc j x hx
      have:=h 0 _ rfl
      simpa [pQ,mO] using this
    have h00:w0.cell? ad=some (.string y):=by simpa [Addr.add] using hcell 0 y (by rw [hxs];rfl)
    have e:=aGa h00
    have hjl:(Lib.join (xs.map (·.data.toList)) [47]).length≤140737488355328:=by
      have h2:=aAa xs
      have h3:=mD hok
      have h4:=congrArg ByteArray.size h2
      rw [ByteArray.size_append] at h4
      have h5:(kR (Lib.join (xs.map (·.data.toList)) [47])).size=(Lib.join (xs.map (·.data.toList)) [47]).length:=by simp [kR,ByteArray.size]
      omega
    have hlt:ad.block<w0.heap.size:=hF.1
    have key:=h1 ad.block ad.off c xs ⟨#[47]⟩ w0 (fun j x hx=>by
      have:=hcell j x hx
      rw [e] at this
      unfold Addr.add at this
      split at this
      · rename_i h;subst h;simpa using this
      · simpa using this) hlt (by omega) g1 hjl
    rw [e]
    refine key.mono fun e' w' ⟨he,hw⟩=>⟨_,_,he,⟨rfl,rfl⟩,fun _=>False,trivial,fun _ h=>h.elim,Fr.a hw _⟩
end Go.Proofs.YtmejbfmhaoilmaaGreatDoor
/- What is proved: a name put into a directory, in plain Lean. No condition. -/
namespace Go.Proofs.YtmejbfmhaoilmaaGreatDoor
open Go Go.RowKit
set_option linter.unusedVariables false
set_option linter.unusedSimpArgs false
def aF6 (es:List bO) (s:ByteArray):Nat:=(es.takeWhile (fun x=>sLt x.name s)).length
theorem pZ {s : ByteArray} : ∀ {es : List bO} {k : Nat}, (∀ (j : Nat) e, j < k → es[j]? = some e → sLt e.name s = true) → k ≤ es.length → (k = es.length ∨ ∃ e, es[k]? = some e ∧ sLt e.name s = false) → aF6 es s = k
  | [],k,_,h,_=>by simp at h;subst h;rfl
  | e :: es,0,_,_,h=>by
      obtain h |⟨y,hy,hn⟩:=h
      · simp at h
      · simp at hy;subst hy;simp [aF6,hn]
  | e :: es,k+1,ha,hk,h=>by
      have h0:=ha 0 e (by omega) (by simp)
      have ih:=pZ (s:=s) (es:=es) (k:=k) (fun j e hj he=>ha (j+1) e (by omega) (by simpa using he)) (by simpa using hk) (h.elim (fun h=> .inl (by simpa using h)) (fun⟨e,he,hn⟩=> .inr ⟨e,by simpa using he,hn⟩))
      unfold aF6 at ih ⊢
      simp [List.takeWhile_cons,h0,ih]
abbrev fZ (es:List bO) (n:bO):List bO:=es.take (aF6 es n.name)++ [n]++es.drop (aF6 es n.name)
theorem rW {es:List bO}{n:bO}{k:Nat} (h:aF6 es n.name=k):es.take k++ [n]++es.drop k=fZ es n:=by subst h;rfl
def rD (f:DFs) (a:Int) (s:ByteArray) (b:Int):Int:=
  if 0≤fX (aG f.inodes a) s then 7
  else if¬(bQ f.inodes.length b∧aY f.inodes b≠0)then 4
  else if 6≤(aG f.inodes a).length∨(aY f.inodes b=1∧60≤dJ f.inodes b)then 2 else 0
def aLs (f:DFs) (a:Int) (s:ByteArray) (b:Int):DFs:=
  if aY f.inodes b=1 then⟨fL (gL f.inodes a (fZ (aG f.inodes a) ⟨s,b⟩)) b (dJ f.inodes b+1),f.data⟩else dG f a (fZ (aG f.inodes a) ⟨s,b⟩)
def nS (f:DFs) (a:Int) (s:ByteArray) (b:Int):DFs:=if rD f a s b=0 then aLs f a s b else f
theorem sS {f:DFs}{a b:Int}{s:ByteArray} (h:0≤fX (aG f.inodes a) s):rD f a s b=7:=if_pos h
theorem sZ {f:DFs}{a b:Int}{s:ByteArray} (h:¬0≤fX (aG f.inodes a) s) (h2:¬(bQ f.inodes.length b∧aY f.inodes b≠0)):rD f a s b=4:=by unfold rD;rw [if_neg h,if_pos h2]
theorem sN {f:DFs}{a b:Int}{s:ByteArray} (h:¬0≤fX (aG f.inodes a) s) (h2:bQ f.inodes.length b∧aY f.inodes b≠0) (h3:6≤(aG f.inodes a).length∨(aY f.inodes b=1∧60≤dJ f.inodes b)):rD f a s b=2:=by unfold rD;rw [if_neg h,if_neg (by intro h4;exact h4 h2),if_pos h3]
theorem lH {f:DFs}{a b:Int}{s:ByteArray} (h:¬0≤fX (aG f.inodes a) s) (h2:bQ f.inodes.length b∧aY f.inodes b≠0) (h3:¬(6≤(aG f.inodes a).length∨(aY f.inodes b=1∧60≤dJ f.inodes b))):rD f a s b=0:=by unfold rD;rw [if_neg h,if_neg (by intro h4;exact h4 h2),if_neg h3]
theorem iL {f:DFs}{a b:Int}{s:ByteArray} (h:¬rD f a s b=0):nS f a s b=f:=if_neg h
theorem rI {f:DFs}{a b:Int}{s:ByteArray} (h:rD f a s b=0) (h2:aY f.inodes b=1):nS f a s b=⟨fL (gL f.inodes a (fZ (aG f.inodes a) ⟨s,b⟩)) b (dJ f.inodes b+1),f.data⟩:=by unfold nS;rw [if_pos h,aLs,if_pos h2]
theorem rL {f:DFs}{a b:Int}{s:ByteArray} (h:rD f a s b=0) (h2:¬aY f.inodes b=1):nS f a s b=dG f a (fZ (aG f.inodes a) ⟨s,b⟩):=by unfold nS;rw [if_pos h,aLs,if_neg h2]
theorem rU {f:DFs}{a:Int}{s:ByteArray}{es:List bO} (ht:aX f=0) (e:aG f.inodes a=es):(0≤eX (dE s) es∧0≤fX (aG f.inodes a) s)∨(eX (dE s) es<0∧fX (aG f.inodes a) s<0):=by
  subst e
  by_cases h:eX (dE s) (aG f.inodes a)<0
  · exact .inr ⟨h,by rw [sB h];decide⟩
  · obtain ⟨ix, hix, hil, -⟩ := mA (show ¬ eX (dE s) (aG f.inodes a) = -1 by omega)
    exact .inl ⟨by omega,by rw [uS hix];exact(zW ht hil).1⟩
end Go.Proofs.YtmejbfmhaoilmaaGreatDoor
/- What is proved: where paths lead, in plain Lean. No condition. -/
namespace Go.Proofs.YtmejbfmhaoilmaaGreatDoor
open Go Go.RowKit
set_option linter.unusedVariables false
set_option linter.unusedSimpArgs false
def wkC (xs : List aF) : Int → List ByteArray → Int × Int
  | a,[]=>(a,0)
  | a,n :: ns=>if aY xs a=2 then if fX (aG xs a) n<0 then(0,4)else wkC xs (fX (aG xs a) n) ns else(0,9)
theorem aLb {xs:List aF}{a:Int}{ns:List ByteArray}{k:Nat}{n:ByteArray} (h:ns[k]? =some n) (h2:¬aY xs a=2):wkC xs a (ns.drop k)=(0,9):=by
  rw [List.drop_eq_getElem?_toList_append,h]
  show wkC xs a (n :: ns.drop (k+1))=_
  rw [wkC,if_neg h2]
theorem aKm {xs:List aF}{a:Int}{ns:List ByteArray}{k:Nat}{n:ByteArray} (h:ns[k]? =some n) (h2:aY xs a=2) (h3:fX (aG xs a) n<0):wkC xs a (ns.drop k)=(0,4):=by
  rw [List.drop_eq_getElem?_toList_append,h]
  show wkC xs a (n :: ns.drop (k+1))=_
  rw [wkC,if_pos h2,if_pos h3]
theorem aLi {xs:List aF}{a:Int}{ns:List ByteArray}{k:Nat}{n:ByteArray} (h:ns[k]? =some n) (h2:aY xs a=2) (h3:¬fX (aG xs a) n<0):wkC xs a (ns.drop k)=wkC xs (fX (aG xs a) n) (ns.drop (k+1)):=by
  rw [List.drop_eq_getElem?_toList_append,h]
  show wkC xs a (n :: ns.drop (k+1))=_
  rw [wkC,if_pos h2,if_neg h3]
theorem aD0 {xs:List aF}{a:Int}{ns:List ByteArray}{k:Nat} (h:ns.length≤k):wkC xs a (ns.drop k)=(a,0):=by rw [List.drop_eq_nil_of_le h];rfl
theorem pL {f : DFs} (ht : aX f = 0) : ∀ (ns : List ByteArray) (a : Int), bQ f.inodes.length a → bQ f.inodes.length (wkC f.inodes a ns).1
  | [],a,h=>h
  | n :: ns,a,h=>by
    have h0:bQ f.inodes.length 0:=⟨Int.le_refl _,by have:=(vJ (sR ht).1).2.1;omega⟩
    unfold wkC
    split
    · split
      · exact h0
      · rename_i h3;exact pL ht ns _ (sW ht h3)
    · exact h0
theorem kA {f:DFs} (ht:aX f=0):bQ f.inodes.length 0:=⟨Int.le_refl _,by have:=(vJ (sR ht).1).2.1;omega⟩
def cC (f:DFs) (s:ByteArray):Int×Int:=if eS s=0 then wkC f.inodes 0 (bC s)else(0,eS s)
theorem aAf {f:DFs}{s:ByteArray} (h:¬eS s=0):cC f s=(0,eS s):=if_neg h
theorem tJ {f:DFs}{s:ByteArray} (h:eS s=0):cC f s=wkC f.inodes 0 (bC s):=if_pos h
theorem qV {f:DFs} (ht:aX f=0) (s:ByteArray):bQ f.inodes.length (cC f s).1:=by
  unfold cC
  split
  · exact pL ht _ _ (kA ht)
  · exact kA ht
noncomputable def jR (f:DFs) (s:ByteArray):aFz:=if cS f=0 then⟨(cC f s).2,(cC f s).1⟩else⟨cS f,0⟩
theorem aEo {f:DFs}{s:ByteArray} (h:¬cS f=0):jR f s=⟨cS f,0⟩:=if_neg h
theorem wK {f:DFs}{s:ByteArray} (h:cS f=0):jR f s=⟨(cC f s).2,(cC f s).1⟩:=if_pos h
def aO (f:DFs) (s:ByteArray):Int×ByteArray×Int:=
  if jF s=0 then if(wkC f.inodes 0 (fO s)).2=0 then if aY f.inodes (wkC f.inodes 0 (fO s)).1=2 then((wkC f.inodes 0 (fO s)).1,nI s,0)else(0,⟨#[]⟩,9)else(0,⟨#[]⟩,(wkC f.inodes 0 (fO s)).2)else(0,⟨#[]⟩,jF s)
theorem vM {f:DFs}{s:ByteArray} (h:¬jF s=0):aO f s=(0,⟨#[]⟩,jF s):=if_neg h
theorem xV {f:DFs}{s:ByteArray} (h:jF s=0) (h2:¬(wkC f.inodes 0 (fO s)).2=0):aO f s=(0,⟨#[]⟩,(wkC f.inodes 0 (fO s)).2):=by rw [aO,if_pos h,if_neg h2]
theorem xW {f:DFs}{s:ByteArray} (h:jF s=0) (h2:(wkC f.inodes 0 (fO s)).2=0) (h3:¬aY f.inodes (wkC f.inodes 0 (fO s)).1=2):aO f s=(0,⟨#[]⟩,9):=by rw [aO,if_pos h,if_pos h2,if_neg h3]
theorem vB {f:DFs}{s:ByteArray} (h:jF s=0) (h2:(wkC f.inodes 0 (fO s)).2=0) (h3:aY f.inodes (wkC f.inodes 0 (fO s)).1=2):aO f s=((wkC f.inodes 0 (fO s)).1,nI s,0):=by rw [aO,if_pos h,if_pos h2,if_pos h3]
theorem mE {f:DFs}{s:ByteArray}:(aO f s).2.1.size≤4:=by
  have:=sL s
  by_cases h1:jF s=0
  · by_cases h2 : (wkC f.inodes 0 (fO s)).2 = 0
    · by_cases h3 : aY f.inodes (wkC f.inodes 0 (fO s)).1 = 2
      · rw [vB h1 h2 h3];exact this
      · rw [xW h1 h2 h3];exact Nat.zero_le _
    · rw [xV h1 h2];exact Nat.zero_le _
  · rw [vM h1];exact Nat.zero_le _
noncomputable def qF (f:DFs) (s:ByteArray):aFz:=if cS f=0 then⟨(aO f s).2.2,(aO f s).1⟩else⟨cS f,0⟩
theorem aHn {f:DFs}{s:ByteArray} (h:¬cS f=0):qF f s=⟨cS f,0⟩:=if_neg h
theorem aDd {f:DFs}{s:ByteArray} (h:cS f=0):qF f s=⟨(aO f s).2.2,(aO f s).1⟩:=if_pos h
def sM (xs:List aF) (a:Int):Int:=match xs[a.toNat]? with | some x=>x.size | none=>0
theorem mR {xs:List aF}{a:Int}{j:Nat}{x:aF} (hx:xs[j]? =some x) (h:a=(j:Int)):sM xs a=x.size:=by
  subst h
  unfold sM
  rw [Int.toNat_natCast,hx]
def uN (f:DFs) (a:Int):aH8:=if aY f.inodes a=2 then⟨0,a,aY f.inodes a,1,((aG f.inodes a).length:Int)⟩else⟨0,a,aY f.inodes a,dJ f.inodes a,sM f.inodes a⟩
theorem wG {f:DFs}{a:Int} (h:aY f.inodes a=2):uN f a=⟨0,a,aY f.inodes a,1,((aG f.inodes a).length:Int)⟩:=if_pos h
theorem wH {f:DFs}{a:Int} (h:¬aY f.inodes a=2):uN f a=⟨0,a,aY f.inodes a,dJ f.inodes a,sM f.inodes a⟩:=if_neg h
noncomputable def gO (f:DFs) (s:ByteArray):aH8:=if cS f=0 then if(cC f s).2=0 then uN f (cC f s).1 else⟨(cC f s).2,0,0,0,0⟩else⟨cS f,0,0,0,0⟩
theorem pS {f:DFs}{s:ByteArray} (h:¬cS f=0):gO f s=⟨cS f,0,0,0,0⟩:=if_neg h
theorem pP {f:DFs}{s:ByteArray} (h:cS f=0) (h2:¬(cC f s).2=0):gO f s=⟨(cC f s).2,0,0,0,0⟩:=by rw [gO,if_pos h,if_neg h2]
theorem oL {f:DFs}{s:ByteArray} (h:cS f=0) (h2:(cC f s).2=0):gO f s=uN f (cC f s).1:=by rw [gO,if_pos h,if_pos h2]
end Go.Proofs.YtmejbfmhaoilmaaGreatDoor
/- What is proved: the answers of AddName. No condition. -/
namespace Go.Proofs.YtmejbfmhaoilmaaGreatDoor
set_option linter.unusedVariables false
set_option linter.unusedSimpArgs false
end Go.Proofs.YtmejbfmhaoilmaaGreatDoor
/- What is proved: what a drawn tree keeps through all calls: its places lie where they should; plain Lean. No condition. -/
namespace Go.Proofs.YtmejbfmhaoilmaaGreatDoor
open Go Go.RowKit
set_option linter.unusedVariables false
set_option linter.unusedSimpArgs false
structure Jx (n : Nat) (x : aF) : Prop where
  k:0≤x.kind∧x.kind≤2
  l:0≤x.links∧x.links≤60
  z:x.kind=1∨x.links=0
  s:0≤x.size∧x.size≤32
  b:∀b,b∈x.blocks→0≤b∧b≤19
  bl:x.blocks.length≤4
  e6:x.ents.length≤6
  e:∀e,e∈x.ents→(0≤e.ino∧e.ino<(n:Int))∧e.name.size≤4
structure J0 (f : DFs) : Prop where
  n:0<f.inodes.length∧f.inodes.length≤10
  d:f.data.length=20
  x:∀x,x∈f.inodes→Jx f.inodes.length x
structure Jf (f : DFs) : Prop extends J0 f where
  o:∀x,x∈f.inodes→x.kind=1→1≤x.links
theorem Jx.up {n m:Nat}{x:aF} (h:Jx n x) (hm:n≤m):Jx m x:=⟨h.k,h.l,h.z,h.s,h.b,h.bl,h.e6,fun e he=>by have:=h.e e he;exact⟨by omega,this.2⟩⟩
theorem aA8 (n:Nat):Jx n ⟨0,0,0,[],[]⟩:=⟨by decide,by decide,.inr rfl,by decide,fun _ h=>absurd h (by simp),by decide,by decide,fun _ h=>absurd h (by simp)⟩
theorem aE6 {n:Nat}{k:Int} (h:0≤k∧k≤2):Jx n ⟨k,0,0,[],[]⟩:=⟨h,by dsimp only;omega,.inr rfl,by dsimp only;omega,fun _ h=>absurd h (by simp),by simp,by simp,fun _ h=>absurd h (by simp)⟩
theorem J0.get {f:DFs} (h:J0 f) {j:Nat}{x:aF} (hx:f.inodes[j]? =some x):Jx f.inodes.length x:=h.x x (List.mem_of_getElem? hx)
theorem aL8 : Jf ⟨[⟨2, 0, 0, [], []⟩], List.replicate 20 []⟩ where
  n:=by decide
  d:=by simp
  x:=fun x hx=>by obtain rfl:=List.mem_singleton.1 hx;exact aE6 (by decide)
  o:=fun x hx hk=>by obtain rfl:=List.mem_singleton.1 hx;exact absurd hk (by decide)
theorem aAk {α:Type}{xs:List α}{j:Nat}{y z:α} (h:z∈xs.set j y):z=y∨z∈xs:=by
  obtain⟨i,hi⟩:=List.mem_iff_getElem?.1 h
  rw [List.getElem?_set] at hi
  split at hi
  · split at hi
    · exact .inl (Option.some.inj hi).symm
    · cases hi
  · exact .inr (List.mem_of_getElem? hi)
theorem aAd {xs : List aF} {d : List (List UInt8)} {j : Nat} {y : aF} (h : J0 ⟨xs, d⟩) (hy : Jx xs.length y) : J0 ⟨xs.set j y, d⟩ where
  n:=by simpa using h.n
  d:=h.d
  x:=fun x hx=>by
    show Jx (xs.set j y).length x
    rw [List.length_set]
    rcases aAk hx with rfl | hx
    · exact hy
    · exact h.x x hx
theorem aE2 {xs : List aF} {d : List (List UInt8)} {j : Nat} {y : aF} (h : Jf ⟨xs, d⟩) (hy : Jx xs.length y) (ho : y.kind = 1 → 1 ≤ y.links) : Jf ⟨xs.set j y, d⟩ where
  toJ0:=aAd h.toJ0 hy
  o:=fun x hx=>by
    rcases aAk hx with rfl | hx
    · exact ho
    · exact h.o x hx
theorem aDm {xs:List aF}{d d':List (List UInt8)} (h:Jf ⟨xs,d⟩) (hd:d'.length=20):Jf ⟨xs,d'⟩:=⟨⟨h.n,hd,h.x⟩,h.o⟩
theorem aLd {xs : List aF} {d : List (List UInt8)} (h : Jf ⟨xs, d⟩) (hl : xs.length < 10) : Jf ⟨xs ++ [⟨0, 0, 0, [], []⟩], d⟩ where
  n:=by simp;omega
  d:=h.d
  x:=fun x hx=>by
    show Jx (xs++ [_]).length x
    rw [List.length_append]
    rcases List.mem_append.1 hx with hx | hx
    · exact(h.x x hx).up (by show xs.length≤_;omega)
    · obtain rfl:=List.mem_singleton.1 hx;exact aA8 _
  o:=fun x hx hk=>by
    rcases List.mem_append.1 hx with hx | hx
    · exact h.o x hx hk
    · obtain rfl:=List.mem_singleton.1 hx;exact absurd hk (by decide)
theorem aGr {f:DFs} (h:J0 f) {a:Int}{i:Nat}{e:bO} (he:(aG f.inodes a)[i]? =some e):bQ f.inodes.length e.ino∧e.name.size≤4:=by
  unfold aG at he
  cases hx:f.inodes[a.toNat]? with
  | none=>rw [hx] at he;simp at he
  | some x=>
    rw [hx] at he
    have:=(h.get hx).e e (List.mem_of_getElem? he)
    exact⟨⟨this.1.1,by omega⟩,this.2⟩
theorem kQ {f:DFs} (h:J0 f) (a:Int):(aG f.inodes a).length≤6:=by
  unfold aG
  cases hx:f.inodes[a.toNat]? with
  | none=>simp
  | some x=>exact(h.get hx).e6
theorem pO {f:DFs} (h:J0 f) {a:Int}{i:Nat} (hi:i<(aG f.inodes a).length):bQ f.inodes.length (eT (aG f.inodes a) i):=by
  obtain⟨e,he⟩:=aK hi
  rw [mW he]
  exact(aGr h he).1
theorem vN {f:DFs} (h:J0 f) {a:Int}{s:ByteArray} (hk:¬fX (aG f.inodes a) s<0):bQ f.inodes.length (fX (aG f.inodes a) s):=by
  obtain⟨ix,hi⟩:=aBk hk
  have hr:=gB (dE s) (aG f.inodes a)
  rw [uS hi]
  exact pO h (by omega)
theorem eW {f:DFs}{a:Int}{s:ByteArray}{es:List bO} (h:J0 f) (e:aG f.inodes a=es):(0≤eX (dE s) es∧0≤fX (aG f.inodes a) s)∨(eX (dE s) es<0∧fX (aG f.inodes a) s<0):=by
  subst e
  by_cases hk:eX (dE s) (aG f.inodes a)<0
  · exact .inr ⟨hk,by rw [sB hk];decide⟩
  · obtain ⟨ix, hix, hil, -⟩ := mA (show ¬ eX (dE s) (aG f.inodes a) = -1 by omega)
    exact .inl ⟨by omega,by rw [uS hix];exact(pO h hil).1⟩
theorem jV {f:DFs} (h:J0 f):bQ f.inodes.length 0:=⟨Int.le_refl _,by have:=h.n.1;omega⟩
theorem pE {f : DFs} (h : J0 f) : ∀ (ns : List ByteArray) (a : Int), bQ f.inodes.length a → bQ f.inodes.length (wkC f.inodes a ns).1
  | [],a,ha=>ha
  | n :: ns,a,ha=>by
    unfold wkC
    split
    · split
      · exact jV h
      · rename_i h3;exact pE h ns _ (vN h h3)
    · exact jV h
theorem pR {f:DFs} (h:J0 f) (s:ByteArray):bQ f.inodes.length (cC f s).1:=by
  unfold cC
  split
  · exact pE h _ _ (jV h)
  · exact jV h
theorem lK {f:DFs} (h:J0 f) (s:ByteArray):bQ f.inodes.length (aO f s).1:=by
  by_cases h1:jF s=0
  · by_cases h2 : (wkC f.inodes 0 (fO s)).2 = 0
    · by_cases h3 : aY f.inodes (wkC f.inodes 0 (fO s)).1 = 2
      · rw [vB h1 h2 h3];exact pE h _ _ (jV h)
      · rw [xW h1 h2 h3];exact jV h
    · rw [xV h1 h2];exact jV h
  · rw [vM h1];exact jV h
theorem jG {f:DFs} (h:J0 f):∀(j:Nat) (x:aF),f.inodes[j]? =some x→∀(i:Nat) (e:bO),x.ents[i]? =some e→e.ino<(f.inodes.length:Int):=fun j x hx i e he=>((h.get hx).e e (List.mem_of_getElem? he)).1.2
theorem qP {n:Nat}{x:aF} (h:Jx n x):∀(j:Nat) (e:bO),x.ents[j]? =some e→(0≤e.ino∧e.ino<(n:Int))∧e.name.size≤4:=fun j e he=>h.e e (List.mem_of_getElem? he)
theorem yF {f:DFs} (h:J0 f) (k:Int):0≤dJ f.inodes k∧dJ f.inodes k≤60:=by
  unfold dJ
  cases hx:f.inodes[k.toNat]? with
  | none=>simp
  | some x=>exact(h.get hx).l
theorem aCn {f:DFs} (h:J0 f) {k:Int} (hk:aY f.inodes k=1):0≤dJ f.inodes k∧dJ f.inodes k≤60:=yF h k
theorem kG {f:DFs} (h:J0 f) {k:Int} (hk:¬aY f.inodes k=1):dJ f.inodes k=0:=by
  unfold aY at hk
  unfold dJ
  cases hx:f.inodes[k.toNat]? with
  | none=>rfl
  | some x=>
    rw [hx] at hk
    exact(h.get hx).z.resolve_left hk
theorem aMr {f:DFs} (h:J0 f) (k:Int):0≤aY f.inodes k∧aY f.inodes k≤2:=by
  unfold aY
  cases hx:f.inodes[k.toNat]? with
  | none=>simp
  | some x=>exact(h.get hx).k
theorem aMm {f:DFs} (h:J0 f) (k:Int):0≤sM f.inodes k∧sM f.inodes k≤32:=by
  unfold sM
  cases hx:f.inodes[k.toNat]? with
  | none=>simp
  | some x=>exact(h.get hx).s
theorem aHr {f:DFs} (h:J0 f) (s:ByteArray):(0≤(gO f s).kind∧(gO f s).kind≤2)∧(0≤(gO f s).links∧(gO f s).links≤60)∧(0≤(gO f s).size∧(gO f s).size≤32):=by
  unfold gO
  split
  · split
    · have h1 := aMr h (cC f s).1
      have h2:=yF h (cC f s).1
      have h3:=aMm h (cC f s).1
      have h4:=kQ h (cC f s).1
      unfold uN
      split
      · dsimp only;omega
      · dsimp only;omega
    · dsimp only;omega
  · dsimp only;omega
theorem aIx {f:DFs} (h:J0 f) (k:Int):∀b,b∈gC f.inodes k→0≤b∧b≤19:=by
  unfold gC
  cases hx:f.inodes[k.toNat]? with
  | none=>intro b hb;cases hb
  | some x=>exact(h.get hx).b
theorem aCz {α : Type} {f : α → Nat} (h : ∀ x, f x ≤ 1) : ∀ xs : List α, gJ f xs ≤ xs.length
  | []=>Nat.zero_le _
  | x :: xs=>by have h1:=h x;have h2:=aCz h xs;simp only [gJ,List.length_cons];omega
theorem aF8 {f:DFs} (h:J0 f) (k:Int):fV f.inodes k≤60:=by
  have h1:fV f.inodes k≤f.inodes.length * 6:=tL fun x hx=>Nat.le_trans (aCz (fun e=>by unfold oB;split <;> omega) x.ents) (h.x x hx).e6
  have:=h.n.2
  omega
theorem aGi {f : DFs} (h : Jf f) {k : Int} (hp : bQ f.inodes.length k) : wQ f k where
  p:=hp
  d:=h.d
  b:=aIx h.toJ0 k
  l:=aF8 h.toJ0 k
  k:=fun hk=>by
    refine⟨?_,(yF h.toJ0 k).2⟩
    unfold aY at hk
    unfold dJ
    cases hx:f.inodes[k.toNat]? with
    | none=>rw [hx] at hk;exact absurd hk (by decide)
    | some x=>rw [hx] at hk;exact h.o x (List.mem_of_getElem? hx) hk
theorem aBy {f:DFs} (h:J0 f) {a:Int}{es:List bO} (h6:es.length≤6) (he:∀e,e∈es→bQ f.inodes.length e.ino∧e.name.size≤4):J0 (dG f a es):=by
  show J0 ⟨gL f.inodes a es,f.data⟩
  unfold gL
  split
  · rename_i y hy
    have:=h.get hy
    exact aAd h ⟨this.k,this.l,this.z,this.s,this.b,this.bl,h6,fun e hm=>⟨⟨(he e hm).1.1,by have:=(he e hm).1.2;omega⟩,(he e hm).2⟩⟩
  · exact h
theorem aJs {f:DFs} (h:Jf f) {a:Int}{es:List bO} (h6:es.length≤6) (he:∀e,e∈es→bQ f.inodes.length e.ino∧e.name.size≤4):Jf (dG f a es):=by
  refine⟨aBy h.toJ0 h6 he,?_⟩
  show∀x,x∈gL f.inodes a es→x.kind=1→1≤x.links
  unfold gL
  split
  · rename_i y hy
    intro x hx
    rcases aAk hx with rfl | hx
    · exact h.o y (List.mem_of_getElem? hy)
    · exact h.o x hx
  · exact h.o
theorem aBx {xs:List aF}{a:Int}{e:bO} (h:e∈aG xs a):∃i:Nat,(aG xs a)[i]? =some e:=List.mem_iff_getElem?.1 h
theorem wL {f:DFs} (h:Jf f) {a:Int}{i:Nat}:Jf (dG f a ((aG f.inodes a).eraseIdx i)):=
  aJs h (Nat.le_trans (List.length_eraseIdx_le _ _) (kQ h.toJ0 a)) fun e he=>by
    obtain⟨j,hj⟩:=aBx (List.mem_of_mem_eraseIdx he)
    exact aGr h.toJ0 hj
theorem aB3 {es:List bO}{n e:bO} (h:e∈fZ es n):e=n∨e∈es:=by
  simp only [fZ,List.mem_append,List.mem_singleton] at h
  rcases h with (h | h) | h
  · exact .inr (List.mem_of_mem_take h)
  · exact .inl h
  · exact .inr (List.mem_of_mem_drop h)
theorem aB8 {es:List bO}{n:bO}:(fZ es n).length=es.length+1:=by
  simp only [fZ,List.length_append,List.length_take,List.length_drop,List.length_cons,List.length_nil]
  omega
theorem aLt {f:DFs} (h:J0 f) {a:Int}{e:bO} (h5:(aG f.inodes a).length≤5) (hp:bQ f.inodes.length e.ino) (hn:e.name.size≤4):J0 (dG f a (fZ (aG f.inodes a) e)):=
  aBy h (by rw [aB8];omega) fun e' he=>by
    rcases aB3 he with rfl | he
    · exact⟨hp,hn⟩
    · obtain⟨j,hj⟩:=aBx he;exact aGr h hj
theorem aFf {f:DFs} (h:J0 f) {a n:Int} (hk:aY f.inodes a=1) (hn:1≤n∧n≤60) (ho:∀(j:Nat) x,f.inodes[j]? =some x→j≠a.toNat→x.kind=1→1≤x.links):Jf ⟨fL f.inodes a n,f.data⟩:=by
  unfold fL
  unfold aY at hk
  cases hx:f.inodes[a.toNat]? with
  | none=>rw [hx] at hk;exact absurd hk (by decide)
  | some y=>
    rw [hx] at hk
    simp only at hk ⊢
    have:=h.get hx
    refine⟨aAd h ⟨this.k,by dsimp only;omega,.inl hk,this.s,this.b,this.bl,this.e6,this.e⟩,fun x hm hk1=> ?_⟩
    obtain⟨i,hi⟩:=List.mem_iff_getElem?.1 hm
    rw [List.getElem?_set] at hi
    split at hi
    · split at hi
      · obtain rfl:=Option.some.inj hi;exact hn.1
      · cases hi
    · rename_i hne;exact ho i x hi (fun e=>hne e.symm) hk1
theorem aKu {f:DFs} (h:Jf f) (k:Int):Jf (uF f k):=
  aDm (aE2 h (aA8 _) (fun hk=>absurd hk (by decide))) (by rw [mK];exact h.d)
theorem aKx {f:DFs} (h:Jf f) (k:Int):Jf (gY f k):=by
  by_cases h1:aY f.inodes k=1
  · by_cases h2 : 1 < dJ f.inodes k
    · rw [uL h1 h2]
      exact aFf h.toJ0 h1 (by have:=yF h.toJ0 k;omega) fun j x hx _=>h.o x (List.mem_of_getElem? hx)
    · by_cases h3 : fV f.inodes k = 0
      · rw [nK h1 h2 h3];exact aKu h k
      · rw [uV h1 h2 h3];exact h
  · rw [uG h1];exact h
def iX (f:DFs) (a:Int) (i:Nat):DFs:=
  if aY (gY (dG f a ((aG f.inodes a).eraseIdx i)) (eT (aG f.inodes a) i)).inodes (eT (aG f.inodes a) i)=2 then⟨(gY (dG f a ((aG f.inodes a).eraseIdx i)) (eT (aG f.inodes a) i)).inodes.set (eT (aG f.inodes a) i).toNat ⟨0,0,0,[],[]⟩,(gY (dG f a ((aG f.inodes a).eraseIdx i)) (eT (aG f.inodes a) i)).data⟩
  else gY (dG f a ((aG f.inodes a).eraseIdx i)) (eT (aG f.inodes a) i)
theorem aEj {f:DFs}{a:Int}{i:Nat} (h:aY (gY (dG f a ((aG f.inodes a).eraseIdx i)) (eT (aG f.inodes a) i)).inodes (eT (aG f.inodes a) i)=2):iX f a i=⟨(gY (dG f a ((aG f.inodes a).eraseIdx i)) (eT (aG f.inodes a) i)).inodes.set (eT (aG f.inodes a) i).toNat ⟨0,0,0,[],[]⟩,(gY (dG f a ((aG f.inodes a).eraseIdx i)) (eT (aG f.inodes a) i)).data⟩:=if_pos h
theorem aEp {f:DFs}{a:Int}{i:Nat} (h:¬aY (gY (dG f a ((aG f.inodes a).eraseIdx i)) (eT (aG f.inodes a) i)).inodes (eT (aG f.inodes a) i)=2):iX f a i=gY (dG f a ((aG f.inodes a).eraseIdx i)) (eT (aG f.inodes a) i):=if_neg h
theorem yG {f:DFs}{k:Int}:(gY f k).inodes.length=f.inodes.length:=by
  unfold gY
  split
  · split
    · exact dT
    · split
      · simp
      · rfl
  · rfl
theorem jB {f:DFs} (h:Jf f) (a:Int) (i:Nat):Jf (iX f a i):=by
  have h1:=aKx (wL h (a:=a) (i:=i)) (eT (aG f.inodes a) i)
  unfold iX
  split
  · exact aE2 h1 (aA8 _) (fun hk=>absurd hk (by decide))
  · exact h1
theorem zK {f:DFs}{a:Int}{i:Nat}:(iX f a i).inodes.length=f.inodes.length:=by
  unfold iX
  split
  · rw [List.length_set,yG];exact dF
  · rw [yG];exact dF
theorem rC {xs:List aF}{j:Nat}{y:aF}{d:Int} (h:d.toNat≠j):aG (xs.set j y) d=aG xs d:=by
  unfold aG
  rw [List.getElem?_set_ne (fun e=>h e.symm)]
theorem xQ {xs:List aF}{a n d:Int}:aG (fL xs a n) d=aG xs d:=by
  unfold aG
  cases h:(fL xs a n)[d.toNat]? with
  | none=>rw [List.getElem?_eq_none_iff,dT] at h;rw [List.getElem?_eq_none h]
  | some y=>obtain⟨x,hx,rfl⟩:=zT _ y h;rw [hx]
theorem sP {xs:List aF}{a d:Int}{es:List bO} (h:a.toNat<xs.length):aG (gL xs a es) d=if d.toNat=a.toNat then es else aG xs d:=by
  unfold aG
  cases hg:(gL xs a es)[d.toNat]? with
  | none=>
    rw [List.getElem?_eq_none_iff,dF] at hg
    rw [if_neg (by omega),List.getElem?_eq_none hg]
  | some y=>obtain⟨x,hx,rfl⟩:=pI _ y hg;rw [hx]
theorem zR {f:DFs}{k d:Int} (h:d.toNat≠k.toNat):aG (gY f k).inodes d=aG f.inodes d:=by
  unfold gY
  split
  · split
    · exact xQ
    · split
      · exact rC h
      · rfl
  · rfl
theorem yV {f:DFs}{k d:Int}:(aG (gY f k).inodes d).length≤(aG f.inodes d).length:=by
  by_cases h:d.toNat=k.toNat
  · unfold gY
    split
    · split
      · rw [xQ];exact Nat.le_refl _
      · split
        · show (aG (f.inodes.set k.toNat ⟨0, 0, 0, [], []⟩) d).length ≤ _
          by_cases hl:k.toNat<f.inodes.length
          · have : aG (f.inodes.set k.toNat ⟨0, 0, 0, [], []⟩) d = [] := by unfold aG; rw [h, List.getElem?_set_self hl]
            rw [this];exact Nat.zero_le _
          · rw [List.set_eq_of_length_le (by omega)];exact Nat.le_refl _
        · exact Nat.le_refl _
    · exact Nat.le_refl _
  · rw [zR h];exact Nat.le_refl _
theorem yR {xs:List aF}{j:Nat}{d:Int}:(aG (xs.set j ⟨0,0,0,[],[]⟩) d).length≤(aG xs d).length:=by
  by_cases h:d.toNat=j
  · by_cases hl : j < xs.length
    · have : aG (xs.set j ⟨0, 0, 0, [], []⟩) d = [] := by unfold aG; rw [h, List.getElem?_set_self hl]
      rw [this];exact Nat.zero_le _
    · rw [List.set_eq_of_length_le (by omega)];exact Nat.le_refl _
  · rw [rC h];exact Nat.le_refl _
theorem aDn {f:DFs}{a d:Int}{i:Nat} (ha:a.toNat<f.inodes.length) (hd:d.toNat≠(eT (aG f.inodes a) i).toNat):aG (iX f a i).inodes d=if d.toNat=a.toNat then(aG f.inodes a).eraseIdx i else aG f.inodes d:=by
  have h1:aG (gY (dG f a ((aG f.inodes a).eraseIdx i)) (eT (aG f.inodes a) i)).inodes d=if d.toNat=a.toNat then(aG f.inodes a).eraseIdx i else aG f.inodes d:=by
    rw [zR hd];exact sP ha
  unfold iX
  split
  · show aG (List.set _ _ _) d = _
    rw [rC hd];exact h1
  · exact h1
theorem tU {f:DFs}{a:Int}{i:Nat} (ha:a.toNat<f.inodes.length) (hi:i<(aG f.inodes a).length):(aG (iX f a i).inodes a).length+1≤(aG f.inodes a).length:=by
  have h0:(aG (dG f a ((aG f.inodes a).eraseIdx i)).inodes a).length+1=(aG f.inodes a).length:=by
    show(aG (gL f.inodes a _) a).length+1=_
    rw [sP ha,if_pos rfl,List.length_eraseIdx_of_lt hi];omega
  have h1:=yV (f:=dG f a ((aG f.inodes a).eraseIdx i)) (k:=eT (aG f.inodes a) i) (d:=a)
  unfold iX
  split
  · have h2 := yR (xs := (gY (dG f a ((aG f.inodes a).eraseIdx i)) (eT (aG f.inodes a) i)).inodes) (j := (eT (aG f.inodes a) i).toNat) (d := a)
    show(aG (List.set _ _ _) a).length+1≤_
    omega
  · omega
theorem aKi {f:DFs} (h:J0 f) {a b:Int}{s:ByteArray} (hs:s.size≤4) (ho:rD f a s b=0∨Jf f) (hf:∀(j:Nat) x,f.inodes[j]? =some x→j≠b.toNat→x.kind=1→1≤x.links):Jf (nS f a s b):=by
  by_cases hc:rD f a s b=0
  · have hc' := hc
    unfold rD at hc'
    split at hc'
    · exact absurd hc' (by decide)
    · split at hc'
      · exact absurd hc' (by decide)
      · split at hc'
        · exact absurd hc' (by decide)
        · rename_i h1 h2 h3
          have h2':bQ f.inodes.length b∧aY f.inodes b≠0:=Classical.byContradiction h2
          have hj:=aLt h (a:=a) (e:=⟨s,b⟩) (by omega) h2'.1 hs
          have hoth:∀(j:Nat) x,(gL f.inodes a (fZ (aG f.inodes a) ⟨s,b⟩))[j]? =some x→j≠b.toNat→x.kind=1→1≤x.links:=fun j x hx hne hk=>by
            obtain⟨y,hy,rfl⟩:=pI _ x hx
            exact hf j y hy hne hk
          by_cases hk:aY f.inodes b=1
          · rw [rI hc hk]
            exact aFf hj (by rw [xG];exact hk) (by have:=yF h b;omega) hoth
          · rw [rL hc hk]
            refine⟨hj,fun x hx hk1=> ?_⟩
            obtain⟨j,hjx⟩:=List.mem_iff_getElem?.1 hx
            by_cases hjb:j=b.toNat
            · subst hjb
              obtain⟨y,hy,rfl⟩:=pI _ x hjx
              unfold aY at hk
              rw [hy] at hk
              exact absurd hk1 hk
            · exact hoth j x hjx hjb hk1
  · rw [iL hc]
    exact ho.elim (fun h=>absurd h hc) id
theorem yE {f:DFs} (h:Jf f) {a b:Int}{s:ByteArray} (hs:s.size≤4):Jf (nS f a s b):=aKi h.toJ0 hs (.inr h) fun j x hx _=>h.o x (List.mem_of_getElem? hx)
theorem aKz {f:DFs} (h:Jf f) {xs:List aF} (hxs:xs=f.inodes∨(f.inodes.length<10∧xs=f.inodes++ [⟨0,0,0,[],[]⟩])) {a b k:Int}{s:ByteArray} (hk:1≤k∧k≤2) (hb:0≤b∧b<(xs.length:Int)) (hs:s.size≤4) (hl:fX (aG xs a) s<0) (h6:(aG xs a).length<6) (hne:a.toNat≠b.toNat):
    J0 ⟨xs.set b.toNat ⟨k,0,0,[],[]⟩,f.data⟩∧Jf (nS ⟨xs.set b.toNat ⟨k,0,0,[],[]⟩,f.data⟩ a s b):=by
  have hj:Jf ⟨xs,f.data⟩:=by
    rcases hxs with rfl |⟨h1,rfl⟩
    · exact h
    · exact aLd h h1
  have h0:=aAd hj.toJ0 (j:=b.toNat) (aE6 (n:=xs.length) (k:=k) (by omega))
  have hlt:b.toNat<xs.length:=by omega
  have hkb:aY (xs.set b.toNat ⟨k,0,0,[],[]⟩) b=k:=by unfold aY;rw [List.getElem?_set_self hlt]
  have hlb:dJ (xs.set b.toNat ⟨k,0,0,[],[]⟩) b=0:=by unfold dJ;rw [List.getElem?_set_self hlt]
  have hea:aG (xs.set b.toNat ⟨k,0,0,[],[]⟩) a=aG xs a:=rC hne
  have hc:rD ⟨xs.set b.toNat ⟨k,0,0,[],[]⟩,f.data⟩ a s b=0:=by
    refine lH ?_ ?_ ?_
    · show ¬ 0 ≤ fX (aG (xs.set b.toNat _) a) s
      rw [hea];omega
    · show bQ (xs.set b.toNat _).length b ∧ aY (xs.set b.toNat _) b ≠ 0
      rw [hkb,List.length_set]
      exact⟨⟨hb.1,by omega⟩,by omega⟩
    · show ¬ (6 ≤ (aG (xs.set b.toNat _) a).length ∨ (aY (xs.set b.toNat _) b = 1 ∧ 60 ≤ dJ (xs.set b.toNat _) b))
      rw [hea,hlb];omega
  refine⟨h0,aKi h0 hs (.inl hc) fun j x hx hne hk1=> ?_⟩
  have hx':(xs.set b.toNat ⟨k,0,0,[],[]⟩)[j]? =some x:=hx
  rw [List.getElem?_set_ne (fun e=>hne e.symm)] at hx'
  exact hj.o x (List.mem_of_getElem? hx') hk1
theorem aK1 {f:DFs} (h:Jf f) {a:Int}{L:List UInt8}{ws:List Int} (hL:L.length≤32) (hw:∀b,b∈ws→0≤b∧b≤19) (hl:ws.length≤4):Jf (aK7 f a L ws):=by
  have hd:(vG (kJ f a) ws L ws.length).length=20:=by rw [tK,mK];exact h.d
  show Jf ⟨vY f.inodes a L.length ws,vG (kJ f a) ws L ws.length⟩
  unfold vY
  cases hx:f.inodes[a.toNat]? with
  | none=>exact aDm (xs:=f.inodes) h hd
  | some y=>
    have:=h.get hx
    exact aDm (aE2 (y:=⟨y.kind,y.links,L.length,ws,y.ents⟩) h ⟨this.k,this.l,this.z,by dsimp only;omega,hw,hl,this.e6,this.e⟩ (h.o y (List.mem_of_getElem? hx))) hd
theorem aF9 {xs:List aF}{a n:Int}{ws:List Int}:(vY xs a n ws).length=xs.length:=by
  unfold vY;split <;> simp
theorem aG7 {f:DFs} (h:Jf f) {a:Int}{L:List UInt8}{busy:List Int} (hc:(vK f a L busy).code=0):Jf (vK f a L busy).fs∧(vK f a L busy).fs.inodes.length=f.inodes.length:=by
  by_cases h1:(L.length:Int)≤32
  · by_cases h2 : (fJ f L busy).code = 0
    · rw [aAb h1 h2]
      have hp:=aFa h2
      have h9:((fJ f L busy).list.length:Int)=((L.length:Int)+7) / 8:=hp.2
      exact⟨aK1 h (by omega) hp.1 (by omega),aF9⟩
    · rw [aA5 h1 h2] at hc;exact absurd hc h2
  · rw [aBg h1] at hc;exact absurd hc (by decide)
theorem aI8 {f:DFs} (h:Jf f) {a i:Int}{ys:List UInt8}{busy:List Int} (hc:(gT f a i ys busy).code=0):Jf (gT f a i ys busy).fs∧(gT f a i ys busy).fs.inodes.length=f.inodes.length:=by
  unfold gT at hc ⊢
  split at hc
  · rename_i h1
    rw [if_pos h1]
    split at hc
    · rename_i h2
      rw [if_pos h2]
      split at hc
      · exact absurd hc (by decide)
      · rename_i h3
        rw [if_neg h3]
        split at hc
        · rename_i h4;rw [if_pos h4];exact⟨h,rfl⟩
        · rename_i h4;rw [if_neg h4];exact aG7 h hc
    · exact absurd hc (by decide)
  · rename_i h1;exact absurd hc h1
theorem aM7 {f:DFs} (h:Jf f) {a n:Int}{busy:List Int} (hc:(pC f a n busy).code=0):Jf (pC f a n busy).fs∧(pC f a n busy).fs.inodes.length=f.inodes.length:=by
  unfold pC at hc ⊢
  split at hc
  · rename_i h1
    rw [if_pos h1]
    split at hc
    · rename_i h2;rw [if_pos h2];exact aG7 h hc
    · exact absurd hc (by decide)
  · rename_i h1;exact absurd hc h1
theorem vX {es:List bO}{s:ByteArray}{e:bO} (h:e∈es) (hn:e.name=s):0≤eX (dE s) es:=by
  unfold eX
  cases hf:es.findIdx? (dE s) with
  | some i=>simp only;omega
  | none=>
    have:=List.findIdx?_eq_none_iff.1 hf e h
    simp [hn] at this
theorem aFt {α:Type}{xs:List α}{i j:Nat}{x:α} (h:xs[i]? =some x) (hne:i≠j):x∈xs.eraseIdx j:=by
  by_cases hlt:i<j
  · exact List.mem_of_getElem? (i:=i) (by rw [List.getElem?_eraseIdx_of_lt hlt];exact h)
  · exact List.mem_of_getElem? (i:=i - 1) (by rw [List.getElem?_eraseIdx_of_ge (by omega),show i - 1+1=i by omega];exact h)
theorem zV {f : DFs} (h : Jf f) {d t : Int} {s : ByteArray} {i k : Nat} (hd : bQ f.inodes.length d) (ht : bQ f.inodes.length t) (hi : eX (dE s) (aG f.inodes d) = (i : Int)) (hk : k < (aG f.inodes t).length)
    (hne:eT (aG f.inodes t) k≠eT (aG f.inodes d) i) (h0:(aG f.inodes (eT (aG f.inodes t) k)).length=0):0≤eX (dE s) (aG (iX f t k).inodes d):=by
  have hr:=gB (dE s) (aG f.inodes d)
  obtain⟨e,he⟩:=aK (xs:=aG f.inodes d) (j:=i) (by omega)
  have hen:e.name=s:=by
    unfold eX at hi
    cases hf:(aG f.inodes d).findIdx? (dE s) with
    | none=>rw [hf] at hi;simp only at hi;omega
    | some q=>
      rw [hf] at hi
      obtain rfl:q=i:=by simp only at hi;omega
      obtain⟨h1,h2, -⟩:=List.findIdx?_eq_some_iff_getElem.1 hf
      rw [List.getElem?_eq_getElem h1] at he
      obtain rfl:=Option.some.inj he
      exact of_decide_eq_true h2
  have hp:=pO h.toJ0 hk
  have hdo:d.toNat≠(eT (aG f.inodes t) k).toNat:=fun e2=>by
    have:d=eT (aG f.inodes t) k:=by have:=hd.1;have:=hp.1;omega
    rw [←this] at h0
    have:=(List.getElem?_eq_some_iff.1 he).1
    omega
  rw [aDn (by have:=ht.1;have:=ht.2;omega) hdo]
  split
  · rename_i hdt
    obtain rfl:d=t:=by have:=hd.1;have:=ht.1;omega
    refine vX (aFt he fun e2=> ?_) hen
    subst e2
    exact hne rfl
  · exact vX (List.mem_of_getElem? he) hen
theorem aCy (xs:List aF): -1≤dB xs∧dB xs≤(xs.length:Int):=by
  unfold dB
  cases hf:xs.findIdx? (fun x=>decide (x.kind=0)) with
  | none=>simp only;split <;> omega
  | some i=>have:=(List.findIdx?_eq_some_iff_getElem.1 hf).1;simp only;omega
theorem aFn {xs:List aF} (h:dB xs=(xs.length:Int)) (h10:xs.length≤10):xs.length<10:=by
  unfold dB at h
  cases hf:xs.findIdx? (fun x=>decide (x.kind=0)) with
  | none=>rw [hf] at h;simp only at h;split at h <;> omega
  | some i=>rw [hf] at h;have:=(List.findIdx?_eq_some_iff_getElem.1 hf).1;simp only at h;omega
theorem aF7 {xs:List aF} (h:0≤dB xs):aY xs (dB xs)=0:=by
  unfold dB at h ⊢
  cases hf:xs.findIdx? (fun x=>decide (x.kind=0)) with
  | none=>
    simp only
    split
    · rename_i h1;rw [hf,if_pos h1] at h;exact absurd h (by decide)
    · exact oX (Int.le_refl _)
  | some i=>
    obtain⟨h1,h2, -⟩:=List.findIdx?_eq_some_iff_getElem.1 hf
    simp only
    rw [cO (List.getElem?_eq_getElem h1) rfl]
    exact of_decide_eq_true h2
theorem aFs {f:DFs}{s:ByteArray} (h:(aO f s).2.2=0):aY f.inodes (aO f s).1=2:=by
  by_cases h1:jF s=0
  · by_cases h2 : (wkC f.inodes 0 (fO s)).2 = 0
    · by_cases h3 : aY f.inodes (wkC f.inodes 0 (fO s)).1 = 2
      · rw [vB h1 h2 h3];exact h3
      · rw [xW h1 h2 h3] at h;exact absurd h (by decide)
    · rw [xV h1 h2] at h;exact absurd h h2
  · rw [vM h1] at h;exact absurd h h1
theorem aFp {xs:List aF}{y:aF}{a:Int} (h:a.toNat<xs.length):aG (xs++ [y]) a=aG xs a:=by
  unfold aG
  rw [List.getElem?_append_left h]
theorem aMt {f : DFs} (hj : Jf f) {p : ByteArray} {k : Int} {xs : List aF} (hk : 1 ≤ k ∧ k ≤ 2) (hc : (aO f p).2.2 = 0) (hl : eX (dE (aO f p).2.1) (aG f.inodes (aO f p).1) < 0) (h6 : (aG f.inodes (aO f p).1).length < 6) (hb : 0 ≤ dB f.inodes)
    (hxs:(¬dB f.inodes=(f.inodes.length:Int)∧xs=f.inodes)∨(dB f.inodes=(f.inodes.length:Int)∧xs=f.inodes++ [⟨0,0,0,[],[]⟩])):
    J0 ⟨xs.set (dB f.inodes).toNat ⟨k,0,0,[],[]⟩,f.data⟩∧Jf (nS ⟨xs.set (dB f.inodes).toNat ⟨k,0,0,[],[]⟩,f.data⟩ (aO f p).1 (aO f p).2.1 (dB f.inodes))∧
    bQ (xs.set (dB f.inodes).toNat ⟨k,0,0,[],[]⟩).length (aO f p).1∧(aG (xs.set (dB f.inodes).toNat ⟨k,0,0,[],[]⟩) (aO f p).1).length≤6:=by
  have hp:=lK hj.toJ0 p
  have hr:=aCy f.inodes
  have h10:=hj.n.2
  have ha:(aO f p).1.toNat<f.inodes.length:=by have:=hp.1;have:=hp.2;omega
  have hne:(aO f p).1.toNat≠(dB f.inodes).toNat:=fun e=>by
    have h1:=aFs hc
    have h2:=aF7 hb
    rw [show dB f.inodes=(aO f p).1 by have:=hp.1;omega] at h2
    omega
  have he:aG xs (aO f p).1=aG f.inodes (aO f p).1:=by
    rcases hxs with ⟨-,rfl⟩ |⟨-,rfl⟩
    · rfl
    · exact aFp ha
  have hlen:(dB f.inodes)<(xs.length:Int)∧f.inodes.length≤xs.length:=by
    rcases hxs with ⟨h1,rfl⟩ |⟨h1,rfl⟩
    · omega
    · rw [List.length_append];simp only [List.length_cons,List.length_nil];omega
  have hm:=aKz hj (xs:=xs) (a:=(aO f p).1) (b:=dB f.inodes) (k:=k) (s:=(aO f p).2.1) (by
    rcases hxs with ⟨h1,rfl⟩ |⟨h1,rfl⟩
    · exact .inl rfl
    · exact .inr ⟨aFn h1 h10,rfl⟩) hk ⟨hb,hlen.1⟩ mE (by rw [he,sB hl];decide) (by rw [he];exact h6) hne
  refine⟨hm.1,hm.2,?_,?_⟩
  · rw [List.length_set];exact⟨hp.1,by have:=hp.2;omega⟩
  · rw [rC hne,he];omega
theorem aG4 {G:DFs} (h:Jf G) {j:Nat}{y:aF}{e:bO} (hy:G.inodes[j]? =some y) (h5:y.ents.length≤5) (hp:bQ G.inodes.length e.ino) (hn:e.name.size≤4):Jf ⟨G.inodes.set j ⟨y.kind,y.links,y.size,y.blocks,fZ y.ents e⟩,G.data⟩:=by
  have:=h.get hy
  refine aE2 (xs:=G.inodes) (d:=G.data) h ⟨this.k,this.l,this.z,this.s,this.b,this.bl,by show(fZ y.ents e).length≤6;rw [aB8];omega,fun e' he=> ?_⟩ (h.o y (List.mem_of_getElem? hy))
  rcases aB3 he with rfl | he
  · exact⟨⟨hp.1,by have:=hp.2;omega⟩,hn⟩
  · exact this.e e' he
theorem aFi {F:DFs}{d t:Int}{i:Nat} (hd:bQ F.inodes.length d) (ht:bQ F.inodes.length t) (hi:i<(aG F.inodes d).length):(aG (dG F d ((aG F.inodes d).eraseIdx i)).inodes t).length≤(aG F.inodes t).length∧(t=d→(aG (dG F d ((aG F.inodes d).eraseIdx i)).inodes t).length+1≤(aG F.inodes t).length):=by
  have h1:aG (dG F d ((aG F.inodes d).eraseIdx i)).inodes t=if t.toNat=d.toNat then(aG F.inodes d).eraseIdx i else aG F.inodes t:=sP (by have:=hd.1;have:=hd.2;omega)
  rw [h1]
  split
  · rename_i h2
    obtain rfl:t=d:=by have:=hd.1;have:=ht.1;omega
    rw [List.length_eraseIdx_of_lt hi]
    omega
  · rename_i h2
    exact⟨Nat.le_refl _,fun e=>absurd (by rw [e]) h2⟩
end Go.Proofs.YtmejbfmhaoilmaaGreatDoor
/- What is proved: a slice of one's own opened up in the middle, and the gap filled; zeros appended; two slices apart. No condition. -/
namespace Go.Proofs.YtmejbfmhaoilmaaGreatDoor
open Go Go.RowKit
set_option linter.unusedVariables false
set_option linter.unusedSimpArgs false
section
variable {P:Program}{T:eR}{o:Oper}{w0:World}{S0:Bs}{l l':List Asn}
theorem aJz {Wd:World→Prop}{x:Operand}{t e:TypeId}{n c:Nat}{A:Option Addr} (ho:o.op= .call {callee:= .builtin .cap,args:= #[x],argTypes:= #[t]}) (ht:P.underlying t=some (.slice e)) (hx:Val T x (.slice A n c)):eO P o T Wd (.int .i64 (c:Int)):=fun a w ha _=>by
  simp only [execOp,ho]
  simp [resolve,hx a ha,invoke,builtin,Builtin.cap_,run_underlying ht,goInt]
end
end Go.Proofs.YtmejbfmhaoilmaaGreatDoor
/- What is proved: what is found below a place within ten steps is what can be reached, in plain Lean. No condition. -/
namespace Go.Proofs.YtmejbfmhaoilmaaGreatDoor
open Go Go.RowKit
set_option linter.unusedVariables false
set_option linter.unusedSimpArgs false
def wi (xs : List aF) (a : Int) : Nat → Int → Bool
  | 0,b=>decide (b=a)
  | n+1,b=>decide (b=a) || (aG xs b).any (fun e=>wi xs a n e.ino)
theorem aE4 {xs:List aF}{a b:Int}{n:Nat} (h:b=a):wi xs a n b=true:=by
  cases n <;> simp [wi,h]
theorem aLo {xs:List aF}{a b:Int}{n k:Nat}{e:bO} (hn:0<n) (he:(aG xs b)[k]? =some e) (h:wi xs a (n - 1) e.ino=true):wi xs a n b=true:=by
  obtain⟨m,rfl⟩:∃m,n=m+1:=⟨n - 1,by omega⟩
  simp only [wi,Bool.or_eq_true]
  exact .inr (List.any_eq_true.2 ⟨e,List.mem_of_getElem? he,by simpa using h⟩)
theorem yZ {xs:List aF}{a b:Int}{n:Nat} (h:¬b=a) (hk:n=0∨∀(j:Nat) (e:bO),(aG xs b)[j]? =some e→wi xs a (n - 1) e.ino=false):wi xs a n b=false:=by
  cases n with
  | zero=>simp [wi,h]
  | succ m=>
    have hk':=hk.resolve_left (by omega)
    simp only [wi,Bool.or_eq_false_iff,decide_eq_false h,true_and]
    rw [List.any_eq_false]
    intro e he
    obtain⟨j,hj⟩:=List.mem_iff_getElem?.1 he
    have:=hk' j e hj
    simpa using this
abbrev qZ (f:DFs) (a:Int):Prop:=bQ f.inodes.length a∧¬aY f.inodes a=0
noncomputable def rN (f:DFs) (a b:Int):Bool:=decide (cS f=0∧qZ f a∧qZ f b) && decide (a∈lE f.inodes b.toNat)
theorem iN {f:DFs}{a b:Int} (h:¬(cS f=0∧qZ f a∧qZ f b)):rN f a b=false:=by unfold rN;rw [decide_eq_false h];rfl
theorem qN {f:DFs}{a b:Int} (h:cS f=0) (h1:qZ f a) (h2:qZ f b):rN f a b=decide (a∈lE f.inodes b.toNat):=by unfold rN;rw [decide_eq_true ⟨h,h1,h2⟩];rfl
end Go.Proofs.YtmejbfmhaoilmaaGreatDoor
/- What is proved: small laws for what draws numbers from bytes. No condition. -/
namespace Go.Proofs.YtmejbfmhaoilmaaGreatDoor
open Go Go.RowKit
theorem jP {x n:Int} (hx:0≤x) (hn:1≤n):0≤Int.tmod x n∧Int.tmod x n<n:=
  ⟨Int.tmod_nonneg _ hx,Int.tmod_lt_of_pos _ (by omega)⟩
theorem aId {x n:Int} (hx:0≤x) (hn:1≤n):0≤x / n∧x / n≤x:=
  ⟨Int.ediv_nonneg hx (by omega),Int.ediv_le_self _ hx⟩
theorem nA {α:Type}{K:Kd α}{e by_:Nat}{w:World}{F:Bs}{xs:List α}{A:Option Addr}{c:Nat} (h:(bM e by_ K).ro w F xs [.slice A xs.length c]):xs.length≤c∧c≤9223372036854775807∧xs.length * by_≤140737488355328:=by
  obtain⟨A',c',hv,h1,h2,h3,_⟩:=aD h
  cases hv
  exact⟨h1,h2,h3⟩
end Go.Proofs.YtmejbfmhaoilmaaGreatDoor
/- What is proved: the names that are drawn have no fault. No condition. -/
namespace Go.Proofs.YtmejbfmhaoilmaaGreatDoor
open Go
theorem aFy:∀s:ByteArray,s∈([⟨#[97]⟩,⟨#[98]⟩,⟨#[99]⟩,⟨#[100]⟩,⟨#[97,98]⟩,⟨#[104,97,108,108]⟩]:List ByteArray)→aV s=0:=by decide
theorem rP:∀s:ByteArray,s∈([⟨#[97]⟩,⟨#[97,98]⟩,⟨#[98]⟩,⟨#[99]⟩,⟨#[104,97,108,108]⟩]:List ByteArray)→s.size≤4:=by decide
theorem zB:∀s:ByteArray,s∈([⟨#[97]⟩,⟨#[97,98]⟩,⟨#[98]⟩,⟨#[99]⟩,⟨#[104,97,108,108]⟩]:List ByteArray)→s.size≤140737488351232:=by decide
theorem gM:∀s:ByteArray,s∈([⟨#[47,97]⟩,⟨#[47,98]⟩,⟨#[47,99]⟩]:List ByteArray)→s.size≤140737488351232:=by decide
end Go.Proofs.YtmejbfmhaoilmaaGreatDoor
/- What is proved: three that act are ready in a region that draws: any may be the next. No condition. -/
namespace Go.Proofs.YtmejbfmhaoilmaaGreatDoor
open Go Go.RowKit
section
variable {N:Nat}{w0:World}{S0:Bs}{F:Act→World→Prop}{T:eR}{l lk:List Asn}{P:Program}{Q:Exit→Act→World→Prop}{K:Act→World→Prop}{ops:Array Oper}{last:Nat}
end
end Go.Proofs.YtmejbfmhaoilmaaGreatDoor
/- What is proved: an element of a row of one's own, a struct, is read whole. No condition. -/
namespace Go.Proofs.YtmejbfmhaoilmaaGreatDoor
open Go Go.RowKit
set_option linter.unusedVariables false
section
variable {w0:World}{S0:Bs}{l l':List Asn}
end
end Go.Proofs.YtmejbfmhaoilmaaGreatDoor
/- What is proved: an inode read back from its words, in plain Lean. No condition. -/
namespace Go.Proofs.YtmejbfmhaoilmaaGreatDoor
open Go Go.RowKit
set_option linter.unusedVariables false
set_option linter.unusedSimpArgs false
end Go.Proofs.YtmejbfmhaoilmaaGreatDoor
/- What is proved: how long what is packed gets, of inodes that may be faulty; packed and unpacked again. Plain Lean. No condition. -/
namespace Go.Proofs.YtmejbfmhaoilmaaGreatDoor
open Go Go.RowKit
set_option linter.unusedVariables false
set_option linter.unusedSimpArgs false
end Go.Proofs.YtmejbfmhaoilmaaGreatDoor
/- What is proved: small laws for drawn inodes. No condition. -/
namespace Go.Proofs.YtmejbfmhaoilmaaGreatDoor
open Go
theorem oJ {xs:List aF}{x:aF} (h:aZ xs=0) (hx:cH x=0) (hl:(xs.length:Int)≤9):aZ (xs++ [x])=0:=by
  refine iV (by simp only [List.length_append,List.length_cons,List.length_nil];omega) fun j y _ hy=> ?_
  have hm:=List.mem_of_getElem? hy
  rcases List.mem_append.1 hm with hm | hm
  · exact dM h y hm
  · obtain rfl:=List.mem_singleton.1 hm;exact hx
theorem aKv {bs:List Int}{j:Nat}{v:Int} (h:∀b,b∈bs→0≤b∧b≤19) (hv:0≤v∧v≤19):∀b,b∈bs.set j v→0≤b∧b≤19:=fun b hb=>by
  rcases List.mem_or_eq_of_mem_set hb with hb | rfl
  · exact h b hb
  · exact hv
end Go.Proofs.YtmejbfmhaoilmaaGreatDoor
/- What is proved: what a function owns, from some point on only read: a new base of its frame. No condition. -/
namespace Go.Proofs.YtmejbfmhaoilmaaGreatDoor
open Go Go.RowKit
set_option linter.unusedVariables false
section
variable {N:Nat}{w0:World}{S0:Bs}{F:Act→World→Prop}{T:eR}{l:List Asn}{P:Program}
theorem Y.az {α : Type} {K : Kd α} {x : α} {cs : List Value} {l' : List Asn} (h : fG l (aH K x cs) l')
    (k:∀(w1:World) (S1:Bs),(∀{β:Type}{J:Kd β}{y:β}{ds:List Value},J.ro w0 (FF w0 S0) y ds→J.ro w1 (FF w1 S1) y ds)→K.ro w1 (FF w1 S1) x cs→(∀l w,WS w1 S1 l w→WS w0 S0 l w)→Y N w1 S1 F T l'):Y N w0 S0 F T l:=by
  intro a w h1 h2 h3 h4
  obtain⟨S,hs,hb,hf⟩:=h4.take h
  obtain⟨A,B,hc,hl,iA,iB,d⟩:=hs
  have hc':=K.own_lt (show K.own w A x cs from hc)
  have hsub:∀b,FF w0 S0 b→FF w B b∧w.heap[b]? =w0.heap[b]? :=fun b hF=>
    ⟨⟨Nat.lt_of_lt_of_le hF.1 hf.size,fun hB=>(hb b (iB b hB)).elim hF.2 (fun h=>absurd hF.1 (by omega))⟩,hf.block b hF.1 hF.2⟩
  refine k w B (fun {β} {J} {y} {ds} hr => J.ro_up (J.ro_loc hr fun b hF => (hsub b hF).2) fun b hF => (hsub b hF).1)
    (K.ro_up (K.own_ro hc') fun b hA=>⟨hA.2,fun hB=>d b hA.1 hB⟩) (fun m w' hw=> ?_) a w h1 h2 h3 ⟨B,hl,fun b hB=> .inl hB,Fr.refl _ _⟩
  obtain⟨S2,s1,s2,s3⟩:=hw
  exact⟨S2,s1,fun b hS=>(s2 b hS).elim (fun hB=>hb b (iB b hB)) (fun hle=> .inr (Nat.le_trans hf.size hle)),hf.trans s3 fun b hB=>hb b (iB b hB)⟩
theorem Y.ay {w1:World}{S1:Bs}{fn:Func}{R:Value→List Asn→Prop} (hup:∀l w,WS w1 S1 l w→WS w0 S0 l w) (k:Y N w1 S1 (bodyPost P fn (aI w1 S1 R) .ret) T l):Y N w1 S1 (bodyPost P fn (aI w0 S0 R) .ret) T l:=fun a w h1 h2 h3 h4=>by
  obtain⟨hd,v,hr,r,m,he,hR,hw⟩:=k a w h1 h2 h3 h4
  exact⟨hd,v,hr,r,m,he,hR,hup _ _ hw⟩
end
end Go.Proofs.YtmejbfmhaoilmaaGreatDoor
/- What is proved: values that are one's own and only read (a kind of their own): made, set aside as a new base of the frame, given back. No condition. -/
namespace Go.Proofs.YtmejbfmhaoilmaaGreatDoor
open Go Go.RowKit
set_option linter.unusedVariables false
@[reducible] def oR {α : Type} (K : Kd α) : Kd α where
  sz:=K.sz
  pos:=K.pos
  ro:=K.ro
  own w S x cs:=K.ro w (fun b=>S b∧b<w.heap.size) x cs
  ro_len h:=K.ro_len h
  ro_one h:=K.ro_one h
  ro_up h:=K.ro_up h
  ro_loc h:=K.ro_loc h
  own_ro h:=K.ro_up h fun _ hb=>hb.1
  own_up h hs:=K.ro_up h fun b hb=>⟨hs b hb.1,hb.2⟩
  own_loc:=by
    intro w w' S x cs h hs
    refine K.ro_up (K.ro_loc h fun b hb=>hs b hb.1) fun b hb=>⟨hb.1,?_⟩
    have h1:=hs b hb.1
    rw [Array.getElem?_eq_getElem hb.2] at h1
    exact(Array.getElem?_eq_some_iff.1 h1).1
  own_lt h:=K.ro_up h fun _ hb=>⟨hb,hb.2⟩
theorem jS {α:Type}{K:Kd α}{x:α}{cs:List Value} (w:World) (S:Bs) (h:cI [aH K x cs] w S):(aH (oR K) x cs).p w S:=
  K.own_ro (K.own_lt (show K.own w S x cs from h.head (c:=aH K x cs)))
theorem aAh {α : Type} {K : Kd α} {e by_ : Nat} {xs : List α} {A A' : Option Addr} {c a b : Nat} (hA : A' = (if c = a then A else Option.map (fun z => Addr.add z (a * K.sz)) A)) (h1 : a ≤ b) (h2 : b ≤ xs.length) (w : World) (S : Bs)
    (h:cI [aH (bM e by_ K) xs [.slice A xs.length c]] w S):(aH (oR (bM e by_ K)) (fY xs a b) [.slice A' (fY xs a b).length (c - a)]).p w S:=
  nD (e:=e) (by_:=by_) (a:=a) (b:=b) hA (jS w S h) h1 h2
section
variable {N:Nat}{w0:World}{S0:Bs}{F:Act→World→Prop}{T:eR}{l:List Asn}{P:Program}
theorem WS.v {α:Type}{K:Kd α}{e by_:Nat}{xs:List α}{v:Value}{l':List Asn} (ht:fG l (aH (oR (bM e by_ K)) xs [v]) l'):∀w,WS w0 S0 l w→∃A c,v= .slice A xs.length c∧xs.length≤c∧c≤9223372036854775807∧xs.length * by_≤140737488355328:=fun w hw=>by
  obtain⟨S,hs,_,_⟩:=hw.take ht
  have h:(bM e by_ K).ro w (fun b=>S b∧b<w.heap.size) xs [v]:=hs.head (c:=aH (oR (bM e by_ K)) xs [v])
  obtain⟨A,c,h1,h2,h3,h4,_⟩:=aD h
  exact⟨A,c,h1,h2,h3,h4⟩
theorem Y.a1 {α : Type} {K : Kd α} {x : α} {cs : List Value} {l' : List Asn} (h : fG l (aH (oR K) x cs) l')
    (k:∀(w1:World) (S1:Bs),(∀{β:Type}{J:Kd β}{y:β}{ds:List Value},J.ro w0 (FF w0 S0) y ds→J.ro w1 (FF w1 S1) y ds)→K.ro w1 (FF w1 S1) x cs→(∀l w,WS w1 S1 l w→WS w0 S0 l w)→Y N w1 S1 F T l'):Y N w0 S0 F T l:=Y.az h k
end
end Go.Proofs.YtmejbfmhaoilmaaGreatDoor
/- What is proved: results of which one lies in memory. No condition. -/
namespace Go.Proofs.YtmejbfmhaoilmaaGreatDoor
open Go Go.RowKit
set_option linter.unusedVariables false
set_option linter.unusedSimpArgs false
section
variable {w0:World}{S0:Bs}{T:eR}{l:List Asn}{P:Program}
end
end Go.Proofs.YtmejbfmhaoilmaaGreatDoor
/- What is proved: the paths of all that there is, in plain Lean. No condition. -/
namespace Go.Proofs.YtmejbfmhaoilmaaGreatDoor
open Go Go.RowKit
set_option linter.unusedVariables false
set_option linter.unusedSimpArgs false
theorem yX {xs:List aF} (h:aZ xs=0) (a:Int):(aG xs a).length≤6:=by
  unfold aG
  cases hx:xs[a.toNat]? with
  | none=>simp
  | some x=>exact yP (dM h x (List.mem_of_getElem? hx))
def dW (xs : List aF) : Nat → Int → List ByteArray → List ByteArray
  | 0,_,_=> []
  | d+1,a,ns=>((aG xs a).map (fun e=>jD (ns++ [e.name]) :: dW xs d e.ino (ns++ [e.name]))).flatten
def qY (xs:List aF) (d:Nat) (a:Int) (ns:List ByteArray) (k:Nat):List ByteArray:=(((aG xs a).take k).map (fun e=>jD (ns++ [e.name]) :: dW xs d e.ino (ns++ [e.name]))).flatten
theorem aNs {xs:List aF}{d:Nat}{a:Int}{ns:List ByteArray}{k:Nat}{e:bO} (h:(aG xs a)[k]? =some e):qY xs d a ns (k+1)=qY xs d a ns k++(jD (ns++ [e.name]) :: dW xs d e.ino (ns++ [e.name])):=by
  unfold qY
  rw [List.take_add_one,h]
  simp
theorem aLu {xs:List aF}{d:Nat}{a:Int}{ns:List ByteArray}{k:Nat} (h:(aG xs a).length≤k):qY xs d a ns k=dW xs (d+1) a ns:=by
  unfold qY
  rw [List.take_of_length_le h]
  rfl
def cB : Nat → Nat
  | 0=>0
  | d+1=>6 * (1+cB d)
theorem xY {xs : List aF} (hI : aZ xs = 0) : ∀ (d : Nat) (a : Int) (ns : List ByteArray), (dW xs d a ns).length ≤ cB d
  | 0,_,_=>Nat.zero_le _
  | d+1,a,ns=>by
    have h6:=yX hI a
    have:∀es:List bO,((es.map (fun e=>jD (ns++ [e.name]) :: dW xs d e.ino (ns++ [e.name]))).flatten).length≤es.length * (1+cB d):=fun es=>by
      induction es with
      | nil=>simp
      | cons e es ih=>
        have h1:=xY hI d e.ino (ns++ [e.name])
        simp only [List.map_cons,List.flatten_cons,List.length_append,List.length_cons,Nat.succ_mul] at ih ⊢
        omega
    exact Nat.le_trans (this _) (Nat.mul_le_mul_right _ h6)
theorem aJr {xs:List aF} (hI:aZ xs=0) {d:Nat}{a:Int}{ns:List ByteArray}{k:Nat} (hk:k<(aG xs a).length):(qY xs d a ns k).length+(1+cB d)≤cB (d+1):=by
  have h6:=yX hI a
  have:∀es:List bO,((es.map (fun e=>jD (ns++ [e.name]) :: dW xs d e.ino (ns++ [e.name]))).flatten).length≤es.length * (1+cB d):=fun es=>by
    induction es with
    | nil=>simp
    | cons e es ih=>
      have h1:=xY hI d e.ino (ns++ [e.name])
      simp only [List.map_cons,List.flatten_cons,List.length_append,List.length_cons,Nat.succ_mul] at ih ⊢
      omega
  have h1:=this ((aG xs a).take k)
  rw [List.length_take,Nat.min_eq_left (by omega)] at h1
  have h2:(k+1) * (1+cB d)≤6 * (1+cB d):=Nat.mul_le_mul_right _ (by omega)
  rw [Nat.succ_mul] at h2
  show _≤6 * (1+cB d)
  unfold qY
  omega
theorem aCa : ∀ {d : Nat}, d ≤ 6 → cB d ≤ 55986
  | 0,_ | 1,_ | 2,_ | 3,_ | 4,_ | 5,_ | 6,_=>by decide
  | d+7,h=>by omega
theorem zH {xs:List aF} (hI:aZ xs=0) {a:Int} (hk:¬aY xs a=2):aG xs a= []:=by
  unfold aY at hk
  unfold aG
  cases hx:xs[a.toNat]? with
  | none=>rfl
  | some x=>
    rw [hx] at hk
    simp only at hk ⊢
    have hf:=dM hI x (List.mem_of_getElem? hx)
    unfold cH at hf
    split at hf
    · split at hf
      · exact absurd hf (by decide)
      · rename_i h1
        exact List.length_eq_zero_iff.1 (Classical.byContradiction fun h2=>h1 (.inr ⟨hk,h2⟩))
    · exact absurd hf (by decide)
theorem aIm {xs:List aF} (hI:aZ xs=0) {d:Nat}{a:Int}{ns:List ByteArray} (hk:¬aY xs a=2):dW xs d a ns= []:=by
  cases d with
  | zero=>rfl
  | succ d=>simp [dW,zH hI hk]
theorem yA {f:DFs} (ht:aX f=0) {a:Int}{k:Nat}{e:bO} (h:(aG f.inodes a)[k]? =some e):aV e.name=0:=by
  unfold aG at h
  cases hx:f.inodes[a.toNat]? with
  | none=>rw [hx] at h;simp at h
  | some x=>
    rw [hx] at h
    exact(oN (dM (hU ht) x (List.mem_of_getElem? hx)) k e h).1
theorem sA {ns:List ByteArray}{n:ByteArray} (h:∀s,s∈ns→aV s=0) (hn:aV n=0):∀s,s∈ns++ [n]→aV s=0:=fun s hs=>by
  rcases List.mem_append.1 hs with hs | hs
  · exact h s hs
  · obtain rfl:=List.mem_singleton.1 hs;exact hn
theorem aAm (ns:List ByteArray) (n:ByteArray):jnB ns++⟨#[47]⟩++n=jD (ns++ [n]):=by
  have e:jD (ns++ [n])=jnB (ns++ [n]):=if_neg (by simp)
  rw [e]
  have:=aJ9 (xs:=ns++ [n]) (k:=ns.length) (x:=n) (by simp)
  rw [List.take_left,List.take_of_length_le (by simp)] at this
  exact this
theorem aJn (ns:List ByteArray) (n:ByteArray):jnB (ns++ [n])=jD (ns++ [n]):=(if_neg (by simp):jD (ns++ [n])=jnB (ns++ [n])).symm
noncomputable def gV (f:DFs):aDz:=if cS f=0 then⟨0,(dW f.inodes 6 0 []).take 60⟩else⟨cS f,[]⟩
theorem qI {f:DFs} (h:¬cS f=0):gV f=⟨cS f,[]⟩:=if_neg h
theorem rB {f:DFs} (h:cS f=0):gV f=⟨0,(dW f.inodes 6 0 []).take 60⟩:=if_pos h
def iK (xs:List aF) (d:Nat) (a:Int) (ns:List ByteArray) (k:Nat):List ByteArray:=qY xs (d - 1) a ns k
theorem aOm {xs:List aF}{d:Nat}{a:Int}{ns:List ByteArray}:iK xs d a ns 0= []:=rfl
theorem aK6 {xs:List aF}{d:Nat}{a:Int}{ns:List ByteArray}{k:Nat}{e:bO} (hd:0<d) (h:(aG xs a)[k]? =some e):iK xs d a ns (k+1)=iK xs d a ns k++(jD (ns++ [e.name]) :: dW xs (d - 1) e.ino (ns++ [e.name])):=aNs h
theorem aDv {xs:List aF}{d:Nat}{a:Int}{ns:List ByteArray}{k:Nat} (h:(d=0∧k=0)∨(0<d∧(aG xs a).length≤k)):iK xs d a ns k=dW xs d a ns:=by
  rcases h with ⟨h1,h2⟩ |⟨h1,h2⟩
  · subst h1;subst h2;rfl
  · cases d with
    | zero=>omega
    | succ d=>exact aLu h2
theorem aEq {xs:List aF} (hI:aZ xs=0) {d:Nat}{a:Int}{ns:List ByteArray}{k:Nat} (hd:0<d) (hk:k<(aG xs a).length):(iK xs d a ns k).length+(1+cB (d - 1))≤cB d:=by
  cases d with
  | zero=>omega
  | succ d=>exact aJr hI hk
theorem aHi {α:Type}{xs:List (List α)}{k:Nat}{y:List α} (h:xs[k]? =some y):(xs.take (k+1)).flatten.length=(xs.take k).flatten.length+y.length:=by rw [List.take_add_one,h];simp
theorem aHz {α:Type}{xs:List (List α)}{k:Nat}{y:List α} (h:xs[k]? =some y):(xs.take k).flatten++y=(xs.take (k+1)).flatten:=by rw [List.take_add_one,h];simp
theorem wR {α : Type} : ∀ {xs : List (List α)} {k : Nat}, (xs.take k).flatten.length ≤ xs.flatten.length
  | [],_=>by simp
  | x :: xs,0=>by simp
  | x :: xs,k+1=>by
    have:=wR (xs:=xs) (k:=k)
    simp only [List.take_succ_cons,List.flatten_cons,List.length_append]
    omega
theorem aBq {α:Type}{xs:List (List α)}{k:Nat}{y:List α} (h:xs[k]? =some y):(xs.take k).flatten.length+y.length≤xs.flatten.length:=by rw [←aHi h];exact wR
theorem wY {α:Type} (xs:List α):xs.take (Int.toNat (eG (xs.length:Int) 60))=xs.take 60:=by
  have:=jH (xs.length:Int) 60
  by_cases h:xs.length≤60
  · rw [List.take_of_length_le h,List.take_of_length_le (by omega)]
  · rw [show Int.toNat (eG (xs.length:Int) 60)=60 by omega]
theorem aFm {a b c:ByteArray}{B:Nat} (h:a.size+b.size+c.size≤B):(a++b++c).size≤B:=by rw [ByteArray.size_append,ByteArray.size_append];exact h
end Go.Proofs.YtmejbfmhaoilmaaGreatDoor
/- What is proved: a row of a few slices handed on; an append of a make to nothing. No condition. -/
namespace Go.Proofs.YtmejbfmhaoilmaaGreatDoor
open Go Go.RowKit
set_option linter.unusedVariables false
set_option linter.unusedSimpArgs false
theorem Tr.lit2 {α:Type}{K:Kd α}{e by_ g c:Nat}{w0 w:World}{S0 S1:Bs}{lr l':List Asn}{x0 x1:α}{v0 v1:Value} (tr:Tr w0 S0 w S1 lr) (tk:fG lr (bV g e 1 c [v0,v1]) l') (hK:K.sz=1) (h0:K.ro w (FF w S1) x0 [v0]) (h1:K.ro w (FF w S1) x1 [v1]) (hb:2 * by_≤140737488355328):(bM e by_ K).ro w (FF w S1) [x0,x1] [.slice (some ⟨g,0,none⟩) 2 2]:=by
  obtain⟨ecs,hF,⟨c1,c2,rfl,r0,r1⟩,hc⟩:=tr.ptr (K:=jE K K) (x:=(x0,x1)) tk ⟨[v0],[v1],rfl,h0,h1⟩
  have l1:=K.ro_len r0
  have l2:=K.ro_len r1
  rw [hK] at l1 l2
  refine⟨some ⟨g,0,none⟩,2,rfl,Nat.le_refl _,by omega,hb,fun _=>⟨_,rfl,hF,fun j x hj=> ?_⟩⟩
  match j,hj with
  | 0,hj=>
    obtain rfl:x0=x:=by simpa using hj
    refine⟨c1,r0,fun i u hu=> ?_⟩
    have hi:=(List.getElem?_eq_some_iff.1 hu).1
    rw [hK,show 0 * 1+i=i by omega]
    exact hc i u (by rw [List.getElem?_append_left hi];exact hu)
  | 1,hj=>
    obtain rfl:x1=x:=by simpa using hj
    refine⟨c2,r1,fun i u hu=> ?_⟩
    rw [hK,show 1 * 1+i=1+i by omega]
    exact hc (1+i) u (by rw [List.getElem?_append_right (by omega),l1,show 1+i - 1=i by omega];exact hu)
  | j+2,hj=>simp at hj
section
variable {w0:World}{S0:Bs}{T:eR}{l l':List Asn}{P:Program}{o:Oper}
theorem yT {α : Type} {K : Kd α} {e by_ k : Nat} {x0 : α} {z : Value} {s q : Operand} {t tn : TypeId} {kq kn : IntKind} (ho : o.op = .call { callee := .builtin .append, args := #[s, q], argTypes := #[t, tn] }) (ht : P.underlying t = some (.slice e)) (htn : P.underlying tn = some (.int kn))
    (hi:(P.info? e).map (fun i=>(i.size,i.bytes,i.zero))=some (K.sz,by_,some z)) (hz:z.cells.size=K.sz) (h0:∀w S,K.own w S x0 z.cells.toList) (hs:Val T s (.slice none 0 0)) (hq:Val T q (.int kq (k:Int))) (hk:0<k) (hb:k * by_≤140737488355328) (h63:k≤140737488355328):
    Eff P o T w0 S0 l (fun r l2=>l2=aH (bM e by_ K) (List.replicate k x0) [r] :: l):=by
  intro a w ha hw
  obtain⟨i0,k1,k2⟩:=Option.map_eq_some_iff.1 hi
  obtain⟨k2,k3⟩:=Prod.mk.inj k2
  obtain⟨k3,k4⟩:=Prod.mk.inj k3
  have hpos:=K.pos
  have hr:=Lib.run_append_grow_zeros (P:=P) w t tn o.type e i0 z kq kn ht htn k1 k4 none 0 0 [] (run_firstCells_none _ _ _ _ _) k hk (by omega) (by omega) (by omega) (by rw [k3];omega) (growslice_fits (by omega) (by rw [k3];simpa using hb))
  rw [Nat.zero_add] at hr
  have hge:=grownCap_ge w k 0 e
  have hcm:=grownCap_le_maxLen w k 0 e (by unfold maxLen;omega)
  unfold maxLen at hcm
  have hzk:(Builtin.zeroCells z.cells k).toList=(List.replicate k z.cells.toList).flatten:=by
    have:=nQ z.cells k (by omega)
    rw [←this]
    rfl
  have hzl:((List.replicate k z.cells.toList).flatten).length=k * K.sz:=by rw [←hzk,Array.length_toList,size_zeroCells,hz]
  have hwd:WS w0 S0 l w.drew:=hw.drewn
  obtain⟨S,⟨A,B,h1,h2,i1,i2,d⟩,hbs,hf⟩:=hwd.new (([]:List Value).toArray++Builtin.zeroCells z.cells k++Builtin.zeroCells z.cells (grownCap w k 0 e - k)) e K.sz (grownCap w k 0 e) (by
    simp only [Array.size_append,List.size_toArray,List.length_nil,size_zeroCells,hz,Nat.zero_add,←Nat.add_mul]
    congr 1;omega)
  obtain⟨hg1,cur,q1,q2,q3,q4⟩:=h1
  refine⟨_,_,_,?_,rfl,S,⟨A,B,.inr ⟨w.heap.size,_,List.replicate k z.cells.toList,rfl,?_,?_,?_,?_,A,fun _=>False,⟨hg1,cur,q1,q2,?_,?_⟩,aAz h0 k _ _,fun _ h=>h,fun _ h=>h.elim,fun _ _ h=>h⟩,h2,i1,i2,d⟩,hbs,hf⟩
  · simp only [execOp, ho, hs a ha, hq a ha]
    simp only [List.length_replicate]
    simp [resolve,hs a ha,hq a ha,invoke,builtin,hr]
  · rw [List.length_replicate];exact hge
  · omega
  · rw [List.length_replicate];exact hb
  · simp
  · rw [hzl, q2]
    exact Nat.mul_le_mul_right _ hge
  · rw [hzl]
    have e1:cur.toList=(([]:List Value).toArray++Builtin.zeroCells z.cells k++Builtin.zeroCells z.cells (grownCap w k 0 e - k)).toList:=by
      rw [Array.length_toList] at q3 q4
      have hs:cur.size=(([]:List Value).toArray++Builtin.zeroCells z.cells k++Builtin.zeroCells z.cells (grownCap w k 0 e - k)).size:=by
        rw [q2]
        simp only [Array.size_append,List.size_toArray,List.length_nil,size_zeroCells,hz,Nat.zero_add,←Nat.add_mul]
        congr 1;omega
      rw [←q4,List.take_of_length_le (by rw [Array.length_toList];omega)]
    rw [e1]
    simp only [Array.toList_append,List.nil_append]
    rw [hzk,←hzl]
    exact List.take_left
end
end Go.Proofs.YtmejbfmhaoilmaaGreatDoor
/- What is proved: what can be reached is there; what is read in two parts is what is read in one; plain Lean. No condition. -/
namespace Go.Proofs.YtmejbfmhaoilmaaGreatDoor
open Go Go.RowKit
set_option linter.unusedVariables false
set_option linter.unusedSimpArgs false
end Go.Proofs.YtmejbfmhaoilmaaGreatDoor
/- What is proved: a path is joined again from its names, and is below its parent: plain Lean. No condition. -/
namespace Go.Proofs.YtmejbfmhaoilmaaGreatDoor
open Go
set_option linter.unusedVariables false
set_option linter.unusedSimpArgs false
theorem aBd {s:ByteArray} (h:aV s=0):∀b,b∈s.data.toList→b≠47:=fun b hb e=>by
  unfold aV at h
  split at h
  · rename_i hl
    subst e
    revert hl
    intro hl
    first
      |(have:=(List.all_eq_true.1 hl) 47 hb;revert this;decide)
      |(have:=hl 47 hb;revert this;decide)
  · exact absurd h (by decide)
theorem aB9 : ∀ {xs : List ByteArray}, (∀ s, s ∈ xs → aV s = 0) → ∀ x, aV x = 0 → nC (x.data.toList ++ gA xs) = (x :: xs).map (·.data.toList)
  | [],_,x,hx=>by
    have:gA []= []:=rfl
    rw [this,List.append_nil,aAc (aBd hx)];rfl
  | y :: ys,h,x,hx=>by
    have ih:=aB9 (xs:=ys) (fun s hs=>h s (by simp [hs])) y (h y (by simp))
    have e:gA (y :: ys)=47 :: (y.data.toList++gA ys):=by simp [gA]
    rw [e]
    have hn:(x.data.toList++47 :: (y.data.toList++gA ys))[x.data.toList.length]? =some 47:=by simp
    have ha:∀(j:Nat) b,j<x.data.toList.length→(x.data.toList++47 :: (y.data.toList++gA ys))[j]? =some b→b≠47:=fun j b hj hb=>by
      rw [List.getElem?_append_left hj] at hb
      exact aBd hx b (List.mem_of_getElem? hb)
    rw [aA3 ha hn]
    simp only [List.take_left',List.map_cons]
    rw [show(x.data.toList++47 :: (y.data.toList++gA ys)).drop (x.data.toList.length+1)=y.data.toList++gA ys by
      rw [←List.drop_drop,List.drop_left']
      · rfl
      · rfl]
    rw [ih]
    simp
theorem aGf (s:ByteArray):(rM s).data.toList=s.data.toList.drop 1:=by
  rw [rM,Lib.extract_data,List.take_of_length_le]
  rw [List.length_drop,iG];exact Nat.le_refl _
theorem zA : ∀ {xs : List ByteArray}, (∀ s, s ∈ xs → aV s = 0) → xs ≠ [] → (gA xs)[(gA xs).length - 1]? ≠ some 47
  | [],_,h=>absurd rfl h
  | x :: xs,h,_=>by
    have hx:=h x (by simp)
    have h4:=(oU hx).2
    rw [←iG] at h4
    by_cases hxs:xs= []
    · subst hxs
      intro e
      have e1:gA [x]=47 :: x.data.toList:=by simp [gA]
      rw [e1] at e
      have:((47:UInt8) :: x.data.toList)[(x.data.toList.length - 1)+1]? =some 47:=by
        rw [show x.data.toList.length - 1+1=((47:UInt8) :: x.data.toList).length - 1 by simp only [List.length_cons];omega];exact e
      rw [List.getElem?_cons_succ] at this
      exact aBd hx 47 (List.mem_of_getElem? this) rfl
    · have ih := zA (xs := xs) (fun s hs => h s (by simp [hs])) hxs
      intro e
      have e1:gA (x :: xs)=(47 :: x.data.toList)++gA xs:=by simp [gA]
      have hp:0<(gA xs).length:=by
        cases xs with
        | nil=>exact absurd rfl hxs
        | cons y ys=>simp [gA]
      rw [e1,List.length_append,List.getElem?_append_right (by omega)] at e
      refine ih ?_
      rw [←e]
      congr 1
      omega
theorem aDc {xs:List ByteArray} (h:∀s,s∈xs→aV s=0) (hl:xs.length≤6):eS (jD xs)=0∧bC (jD xs)=xs:=by
  cases hxs:xs with
  | nil=>
    have e:jD []=sl1:=rfl
    rw [e]
    exact wO (by decide) rfl
  | cons x r=>
    rw [hxs] at h hl
    have hj:=zF h
    have e:jD (x :: r)=kR (gA (x :: r)):=if_neg (by simp)
    have hd:(kR (gA (x :: r))).data.toList=gA (x :: r):=by simp [kR]
    have hsz:(kR (gA (x :: r))).size=(gA (x :: r)).length:=by rw [←iG,hd]
    have ej:gA (x :: r)=47 :: (x.data.toList++gA r):=by simp [gA]
    have hc:jL (rM (kR (gA (x :: r))))=x :: r:=by
      rw [jL,aGf,hd,ej]
      simp only [List.drop_succ_cons,List.drop_zero]
      rw [aB9 (fun s hs=>h s (by simp [hs])) x (h x (by simp)),List.map_map]
      have:(kR ∘ fun s:ByteArray=>s.data.toList)=id:=by funext s;exact nN s
      rw [this,List.map_id]
    have hx1:=(oU (h x (by simp))).2
    have hx2:=iG x
    rw [e]
    have := aA1 (s := kR (gA (x :: r))) (by rw [hsz]; omega)
      (fun e2=>by
        have:(kR (gA (x :: r))).size=1:=by rw [e2];rfl
        rw [hsz,ej] at this
        simp only [List.length_cons,List.length_append] at this
        omega)
      (yY (by rw [hd,ej];rfl) (by rw [hd,hsz];exact zA h (by simp)))
      (by
        rw [hc]
        exact qM (k:=(x :: r).length) (by omega) (fun j s _ hs=>h s (List.mem_of_getElem? hs)) (Nat.le_refl _))
    exact⟨this.1,this.2.trans hc⟩
end Go.Proofs.YtmejbfmhaoilmaaGreatDoor
/- What is proved: each path that is told leads somewhere, and its parent is a directory that has its last name; plain Lean. No condition. -/
namespace Go.Proofs.YtmejbfmhaoilmaaGreatDoor
open Go Go.RowKit
set_option linter.unusedVariables false
set_option linter.unusedSimpArgs false
theorem aHo {xs:List aF} (hI:aZ xs=0) {a:Int} (hk:aY xs a=2):∀(i j:Nat) (e g:bO),i<j→(aG xs a)[i]? =some e→(aG xs a)[j]? =some g→sLt e.name g.name=true:=by
  unfold aY at hk
  unfold aG
  cases hx:xs[a.toNat]? with
  | none=>rw [hx] at hk;exact absurd hk (by decide)
  | some x=>
    rw [hx] at hk
    dsimp only at hk ⊢
    have h:=dM hI x (List.mem_of_getElem? hx)
    unfold cH at h
    rw [if_pos (by omega)] at h
    split at h
    · exact absurd h (by decide)
    · rw [if_neg (show ¬ x.kind = 1 by omega)] at h
      exact aC1 h
theorem aC2 {xs:List aF} (hI:aZ xs=0) {a:Int} (hk:aY xs a=2) {q:Nat}{e:bO} (he:(aG xs a)[q]? =some e):fX (aG xs a) e.name=e.ino:=
  vE he rfl fun j x hj hx hn=>by
    have:=aHo hI hk j q x e hj hx he
    rw [hn,aDo] at this
    exact absurd this (by decide)
theorem aHj {xs : List aF} {ms : List ByteArray} : ∀ {ns : List ByteArray} {a p : Int}, wkC xs a ns = (p, 0) → wkC xs a (ns ++ ms) = wkC xs p ms
  | [],a,p,h=>by obtain rfl:a=p:=congrArg Prod.fst h;rfl
  | n :: ns,a,p,h=>by
    rw [wkC] at h
    split at h
    · rename_i h1
      split at h
      · exact absurd (show(4:Int)=0 from congrArg Prod.snd h) (by decide)
      · rename_i h2
        show wkC xs a (n :: (ns++ms))=_
        rw [wkC,if_pos h1,if_neg h2]
        exact aHj h
    · exact absurd (show(9:Int)=0 from congrArg Prod.snd h) (by decide)
theorem aG6 {f:DFs} (ht:aX f=0):∀(d:Nat) (a:Int) (ns:List ByteArray) (s:ByteArray),s∈dW f.inodes d a ns→
    ∃(is:List ByteArray) (p:Int) (q:Nat) (e:bO),s=jD (ns++(is++ [e.name]))∧is.length<d∧(∀x,x∈is++ [e.name]→aV x=0)∧wkC f.inodes a is=(p,0)∧aY f.inodes p=2∧(aG f.inodes p)[q]? =some e
  | 0,a,ns,s,h=>by cases h
  | d+1,a,ns,s,h=>by
    unfold dW at h
    obtain⟨l,hl,hs⟩:=List.mem_flatten.1 h
    obtain⟨e,he,rfl⟩:=List.mem_map.1 hl
    obtain⟨q,hq⟩:=List.mem_iff_getElem?.1 he
    have hk:aY f.inodes a=2:=Classical.byContradiction fun hk=>by rw [zH (hU ht) hk] at he;cases he
    have hn:=yA ht hq
    rcases List.mem_cons.1 hs with rfl | hs
    · exact⟨[],a,q,e,rfl,Nat.succ_pos _,fun x hx=>by obtain rfl:=List.mem_singleton.1 hx;exact hn,rfl,hk,hq⟩
    · obtain ⟨is, p, r, g, h1, h2, h3, h4, h5, h6⟩ := aG6 ht d e.ino (ns ++ [e.name]) s hs
      refine⟨e.name :: is,p,r,g,by rw [h1];simp,by simp only [List.length_cons];omega,fun x hx=> ?_,?_,h5,h6⟩
      · rcases List.mem_cons.1 hx with rfl | hx
        · exact hn
        · exact h3 x hx
      · rw [wkC, if_pos hk, aC2 (hU ht) hk hq, if_neg (by have := (pK ht hq).1; omega)]
        exact h4
structure aLh (f : DFs) (s : ByteArray) : Prop where
  walk:(jR f s).code=0
  par:(qF f s).code=0
  look:oZ f (qF f s).val (nV s).text=jR f s
  ino:(gO f s).inode=(jR f s).val
  at_:0≤(jR f s).val∧(jR f s).val<(f.inodes.length:Int)
  kind:∀x,f.inodes[(jR f s).val.toNat]? =some x→(gO f s).kind=x.kind
  win:rN f (jR f s).val (qF f s).val=true
theorem aFo {f:DFs} (hc:(gV f).code=0):(∀(k:Nat) s,(gV f).names[k]? =some s→aLh f s∧s.size≤31)∧(gV f).names.length≤60∧(jR f sl1).code=0:=by
  by_cases hF:cS f=0
  · have ht := nE hF
    have hI:=hU ht
    rw [rB hF]
    refine⟨fun k s hs=> ?_,by show((dW f.inodes 6 0 []).take 60).length≤60;rw [List.length_take];omega,?_⟩
    · have hm : s ∈ dW f.inodes 6 0 [] := List.mem_of_mem_take (List.mem_of_getElem? hs)
      obtain⟨is,p,q,e,h1,h2,h3,h4,h5,h6⟩:=aG6 ht 6 0 [] s hm
      rw [List.nil_append] at h1
      have hlen:(is++ [e.name]).length≤6:=by simp;omega
      obtain⟨hc,hN⟩:=aDc h3 hlen
      rw [←h1] at hc hN
      have hpe:=pK ht h6
      have hlk:=aC2 hI h5 h6
      have hne:¬bC s= []:=by rw [hN];simp
      obtain⟨l1,l2,l3⟩:=vA hc hne
      have hlN:fO s=is:=by rw [l2,hN];simp
      have hlT:nI s=e.name:=l3 is.length e.name (by rw [hN];simp) (by rw [hN];simp)
      have hw:cC f s=(e.ino,0):=by
        rw [tJ hc,hN,aHj h4,wkC,if_pos h5,hlk,if_neg (by have:=hpe.1;omega)]
        rfl
      have hpp:aO f s=(p,e.name,0):=by
        rw [vB l1 (by rw [hlN,h4]) (by rw [hlN,h4];exact h5),hlN,h4,hlT]
      have hpl:bQ f.inodes.length p:=by
        have:=pL ht is 0 (kA ht)
        rw [h4] at this
        exact this
      have hW:jR f s=⟨0,e.ino⟩:=by rw [wK hF,hw]
      have hP:qF f s=⟨0,p⟩:=by rw [aDd hF,hpp]
      have hS:gO f s=uN f e.ino:=by rw [oL hF (by rw [hw]),hw]
      have hdc:fK f p=0:=kN ht hpl h5
      obtain⟨x,hx⟩:∃x,f.inodes[p.toNat]? =some x:=⟨_,List.getElem?_eq_getElem (by have:=hpl.1;have:=hpl.2;omega)⟩
      have hex:x.ents[q]? =some e:=by unfold aG at h6;rw [hx] at h6;exact h6
      have hke:¬aY f.inodes e.ino=0:=uH ht _ x hx q e hex
      have h31:s.size≤31:=by
        have:=mD h3
        rw [h1]
        omega
      refine⟨⟨by rw [hW],by rw [hP],?_,?_,?_,fun y hy=> ?_,?_⟩,h31⟩
      · rw [hP, hW, uD l1, hlT]
        show oZ f p e.name=⟨0,e.ino⟩
        rw [wJ (by rw [sT hdc];exact h3 _ (by simp)) (by rw [hlk];have:=hpe.1;omega),hlk]
      · rw [hS,hW];unfold uN;split <;> rfl
      · rw [hW];exact⟨hpe.1,by have:=hpe.2;show e.ino<_;omega⟩
      · rw [hW] at hy
        change f.inodes[e.ino.toNat]? =some y at hy
        have hky:=cO (i:=e.ino) hy (by have:=hpe.1;omega)
        rw [hS]
        unfold uN
        split <;> exact hky
      · rw [hW, hP]
        show rN f e.ino p=true
        rw [qN hF ⟨hpe,hke⟩ ⟨hpl,by rw [h5];decide⟩,decide_eq_true_eq]
        exact uA.2 ⟨⟨hpe.1,by have:=hpe.2;omega⟩,xD.2 (.step .refl hx hex)⟩
    · rw [wK hF]
      show(cC f sl1).2=0
      have h1:=wO (s:=sl1) (by decide) rfl
      rw [tJ h1.1,h1.2]
      rfl
  · rw [qI hF] at hc;exact absurd hc hF
end Go.Proofs.YtmejbfmhaoilmaaGreatDoor
/- What is proved: a variable of the library that stays, behind what is only read from some point on. No condition. -/
namespace Go.Proofs.YtmejbfmhaoilmaaGreatDoor
open Go Go.RowKit
set_option linter.unusedVariables false
def kmx (g : Nat) : Kd Int where
  sz:=1
  pos:=by decide
  ro w F m cs:=eV (gS .i64) w F ⟨g,0,none⟩ m∧cs= [.int .i64 0]
  own _ _ _ _:=False
  ro_len h:=by rw [h.2];rfl
  ro_one h u hu:=by rw [h.2] at hu;obtain rfl:=List.mem_singleton.1 hu;rfl
  ro_up h hF:=⟨h.1.wide fun b hb=>⟨hF b hb,rfl⟩,h.2⟩
  ro_loc h hw:=⟨h.1.wide fun b hb=>⟨hb,hw b hb⟩,h.2⟩
  own_ro h:=h.elim
  own_up h _:=h
  own_loc h _:=h
  own_lt h:=h
theorem iS.fz {g:Nat}{w0 w1:World}{F0 F1:Bs} (tr:∀{β:Type}{J:Kd β}{y:β}{ds:List Value},J.ro w0 F0 y ds→J.ro w1 F1 y ds) (h:iS g w0 F0):iS g w1 F1:=
  h.imp fun m h=>(tr (J:=kmx g) ⟨h,rfl⟩).1
end Go.Proofs.YtmejbfmhaoilmaaGreatDoor
/- What is proved: what a guard leaves out, in one stride. No condition. -/
namespace Go.Proofs.YtmejbfmhaoilmaaGreatDoor
open Go Go.RowKit
set_option linter.unusedVariables false
set_option linter.unusedSimpArgs false
end Go.Proofs.YtmejbfmhaoilmaaGreatDoor

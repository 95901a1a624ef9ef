/- What is proved: paths: cut at a byte, joined again, in plain Lean. No condition. -/
import Derived.Test.YtmejbfmhaoilmaaGreatBase1
import Derived.Lib.SplitLaws
import Derived.Lib.Join
import Derived.Test.YtmejbfmhaoilmaaGreatBase0
import Derived.Lib.Overlaps
import Derived.Lib.AppendZerosOnto
namespace Go.Proofs.YtmejbfmhaoilmaaGreat
open Go Go.RowKit
set_option linter.unusedVariables false
set_option linter.unusedSimpArgs false
abbrev sl1:ByteArray:=⟨#[47]⟩
def yA : List UInt8 → List (List UInt8)
  | []=> [[]]
  | b :: l=>if b=47 then [] :: yA l else match yA l with | []=> [[b]] | p :: ps=>(b :: p) :: ps
theorem aD8 : ∀ {l : List UInt8}, (∀ b, b ∈ l → b ≠ 47) → yA l = [l]
  | [],_=>rfl
  | b :: l,h=>by
    unfold yA
    rw [if_neg (h b (by simp)),aD8 (fun c hc=>h c (by simp [hc]))]
theorem aEa : ∀ {n : Nat} {l : List UInt8}, (∀ (j : Nat) b, j < n → l[j]? = some b → b ≠ 47) → l[n]? = some 47 → yA l = l.take n :: yA (l.drop (n + 1))
  | 0,[],_,h=>by simp at h
  | 0,b :: l,_,h=>by
    have:b=47:=by simpa using h
    subst this
    rw [yA,if_pos rfl]
    simp
  | n+1,[],_,h=>by simp at h
  | n+1,b :: l,ha,h=>by
    have ih:=aEa (n:=n) (l:=l) (fun j c hj hc=>ha (j+1) c (by omega) (by simpa using hc)) (by simpa using h)
    have h0:b≠47:=ha 0 b (by omega) (by simp)
    rw [yA,if_neg h0,ih]
    simp
def wD (s:ByteArray):List ByteArray:=(yA s.data.toList).map pE
theorem vF (s:ByteArray):pE s.data.toList=s:=by cases s;simp [pE]
def CI (l:List UInt8) (m k:Nat) (out:List ByteArray):Prop:=
  m≤k∧(∀(j:Nat) b,m≤j→j<k→l[j]? =some b→b≠47)∧(yA l).map pE=out++(yA (l.drop m)).map pE
theorem aOk {l:List UInt8}:CI l 0 0 []:=⟨Nat.le_refl _,fun j b h1 h2=>absurd h2 (by omega),rfl⟩
theorem aLc {l:List UInt8}{m k:Nat}{out:List ByteArray}{b:UInt8} (h:CI l m k out) (hb:l[k]? =some b) (hn:b≠47):CI l m (k+1) out:=
  ⟨by have:=h.1;omega,fun j c h1 h2 hc=>by
    rcases Nat.lt_succ_iff_lt_or_eq.1 h2 with h3 | rfl
    · exact h.2.1 j c h1 h3 hc
    · rw [hb] at hc;obtain rfl:=Option.some.inj hc;exact hn,h.2.2⟩
theorem aL8 {s:ByteArray}{m k:Nat}{out:List ByteArray}{b:UInt8} (h:CI s.data.toList m k out) (hb:s.data.toList[k]? =some b) (hn:b=47):CI s.data.toList (k+1) (k+1) (out++ [s.extract m k]):=by
  subst hn
  obtain⟨h1,h2,h3⟩:=h
  refine⟨Nat.le_refl _,fun j c a b=>absurd a (by omega),?_⟩
  have hk:m+(k - m)=k:=by omega
  have e:=aEa (n:=k - m) (l:=s.data.toList.drop m) (fun j c hj hc=>h2 (m+j) c (by omega) (by omega) (by rw [List.getElem?_drop] at hc;exact hc)) (by rw [List.getElem?_drop,hk];exact hb)
  rw [h3,e,List.drop_drop,List.map_cons,show m+(k - m+1)=k+1 by omega]
  have e2:s.extract m k=pE (List.take (k - m) (List.drop m s.data.toList)):=by
    rw [←vF (s.extract m k),Lib.extract_data]
  rw [e2]
  simp
theorem aDa {s:ByteArray}{m k:Nat}{out:List ByteArray} (h:CI s.data.toList m k out) (hk:k=s.size):out++ [s.extract m k]=wD s:=by
  subst hk
  obtain⟨h1,h2,h3⟩:=h
  unfold wD
  rw [h3,aD8 (fun b hb=>by
    obtain⟨j,hj⟩:=List.mem_iff_getElem?.1 hb
    rw [List.getElem?_drop] at hj
    have:=(List.getElem?_eq_some_iff.1 hj).1
    rw [mV] at this
    exact h2 (m+j) b (by omega) (by omega) hj)]
  have e:List.take (s.size - m) (List.drop m s.data.toList)=List.drop m s.data.toList:=List.take_of_length_le (by rw [List.length_drop,mV];omega)
  rw [←vF (s.extract m s.size),Lib.extract_data,e]
  simp
def qC : List ByteArray → Int
  | []=>0
  | s :: l=>if cD s=0 then qC l else cD s
theorem yI : ∀ {xs : List ByteArray}, (∀ (j : Nat) s, xs[j]? = some s → cD s = 0) → qC xs = 0
  | [],_=>rfl
  | s :: l,h=>by
    unfold qC
    rw [if_pos (h 0 s (by simp))]
    exact yI (fun j t ht=>h (j+1) t (by simpa using ht))
theorem zB : ∀ {xs : List ByteArray} {k : Nat} {s : ByteArray}, (∀ (j : Nat) s, j < k → xs[j]? = some s → cD s = 0) → xs[k]? = some s → ¬ cD s = 0 → qC xs = cD s
  | [],_,_,_,h,_=>by simp at h
  | t :: l,0,s,_,h,hn=>by
    have:t=s:=by simpa using h
    subst this
    unfold qC
    rw [if_neg hn]
  | t :: l,k+1,s,ha,h,hn=>by
    unfold qC
    rw [if_pos (ha 0 t (by omega) (by simp))]
    exact zB (k:=k) (fun j u hj hu=>ha (j+1) u (by omega) (by simpa using hu)) (by simpa using h) hn
theorem aBy : ∀ {xs : List ByteArray}, qC xs = 0 → ∀ s, s ∈ xs → cD s = 0
  | [],_,_,h=>by simp at h
  | t :: l,h0,s,h=>by
    unfold qC at h0
    split at h0
    · rename_i ht
      rcases List.mem_cons.1 h with rfl | h
      · exact ht
      · exact aBy h0 s h
    · rename_i ht;exact absurd h0 ht
def mQ (xs:List ByteArray):Int:=if 6<xs.length then 2 else qC xs
theorem wV {xs:List ByteArray} (h:6<xs.length):mQ xs=2:=if_pos h
theorem aH9 {xs:List ByteArray} (h:¬6<xs.length) {k:Nat}{s:ByteArray} (ha:∀(j:Nat) s,j<k→xs[j]? =some s→cD s=0) (hs:xs[k]? =some s) (hn:¬cD s=0):mQ xs=cD s:=by rw [mQ,if_neg h,zB ha hs hn]
theorem xK {xs:List ByteArray} (h:¬6<xs.length) {k:Nat} (ha:∀(j:Nat) s,j<k→xs[j]? =some s→cD s=0) (hk:xs.length≤k):mQ xs=0:=by
  rw [mQ,if_neg h]
  exact yI fun j s hs=>ha j s (Nat.lt_of_lt_of_le (List.getElem?_eq_some_iff.1 hs).1 hk) hs
theorem aI2 {xs:List ByteArray} (h:mQ xs=0):xs.length≤6∧∀s,s∈xs→cD s=0:=by
  unfold mQ at h
  split at h
  · exact absurd h (by decide)
  · exact⟨by omega,aBy h⟩
abbrev vS (s:ByteArray):ByteArray:=ByteArray.extract s 1 s.size
def yK (s:ByteArray):Prop:=s.data.toList[0]? ≠some 47∨s.data.toList[s.size - 1]? =some 47
instance (s:ByteArray):Decidable (yK s):=by unfold yK;infer_instance
def fV (s:ByteArray):Int:=if 30<s.size then 2 else if s=sl1 then 0 else if yK s then 5 else mQ (wD (vS s))
def dY (s:ByteArray):List ByteArray:=if fV s=0∧s≠sl1 then wD (vS s)else []
theorem aI5 {s:ByteArray} (h:30<s.size):fV s=2∧dY s= []:=by
  have:fV s=2:=if_pos h
  exact⟨this,by rw [dY,if_neg];rw [this];simp⟩
theorem aIj {s:ByteArray} (h:¬30<s.size) (h2:s=sl1):fV s=0∧dY s= []:=by
  have:fV s=0:=by rw [fV,if_neg h,if_pos h2]
  exact⟨this,by rw [dY,if_neg];simp [h2]⟩
theorem aAq {s:ByteArray} (h:¬30<s.size) (h2:¬s=sl1) (h3:yK s):fV s=5∧dY s= []:=by
  have:fV s=5:=by rw [fV,if_neg h,if_neg h2,if_pos h3]
  exact⟨this,by rw [dY,if_neg];rw [this];simp⟩
theorem aI3 {s:ByteArray} (h:¬30<s.size) (h2:¬s=sl1) (h3:¬yK s) (h4:¬mQ (wD (vS s))=0):fV s=mQ (wD (vS s))∧dY s= []:=by
  have:fV s=mQ (wD (vS s)):=by rw [fV,if_neg h,if_neg h2,if_neg h3]
  exact⟨this,by rw [dY,if_neg];rw [this];simp [h4]⟩
theorem aJj {s:ByteArray} (h:¬30<s.size) (h2:¬s=sl1) (h3:¬yK s) (h4:mQ (wD (vS s))=0):fV s=0∧dY s=wD (vS s):=by
  have:fV s=0:=by rw [fV,if_neg h,if_neg h2,if_neg h3,h4]
  exact⟨this,by rw [dY,if_pos ⟨this,h2⟩]⟩
theorem pJ (s:ByteArray):(dY s).length≤6∧∀x,x∈dY s→cD x=0:=by
  by_cases h:fV s=0∧s≠sl1
  · obtain ⟨h1, h2⟩ := h
    have h3:dY s=wD (vS s):=by rw [dY,if_pos ⟨h1,h2⟩]
    unfold fV at h1
    split at h1
    · exact absurd h1 (by decide)
    · split at h1
      · exact absurd h1 (by decide)
      · rw [h3];exact aI2 h1
  · rw [dY,if_neg h];simp
def xZ (xs:List ByteArray):List UInt8:=(xs.map (fun s=>47 :: s.data.toList)).flatten
def aBs (xs:List ByteArray):ByteArray:=if xs= []then sl1 else pE (xZ xs)
theorem aFr {xs:List ByteArray} (h:∀s,s∈xs→cD s=0):(xZ xs).length≤5 * xs.length:=by
  induction xs with
  | nil=>simp [xZ]
  | cons x r ih=>
    have h1:=(rV (h x (by simp))).1
    have h2:=ih (fun s hs=>h s (by simp [hs]))
    have h3:=mV x
    simp only [xZ,List.map_cons,List.flatten_cons,List.length_append,List.length_cons] at h2 ⊢
    omega
def jnB (xs:List ByteArray):ByteArray:=pE (xZ xs)
theorem aL5 {xs:List ByteArray}{k:Nat}{x:ByteArray} (h:xs[k]? =some x):jnB (xs.take k)++sl1++x=jnB (xs.take (k+1)):=by
  rw [List.take_add_one,h]
  have e:∀a b:ByteArray,a=pE b.data.toList→a=b:=fun a b h=>by rw [h,vF]
  symm
  apply e
  unfold jnB
  congr 1
  simp [xZ,pE]
theorem aJy {xs:List ByteArray}:(jnB xs=⟨#[]⟩)↔xs= []:=by
  constructor
  · intro h
    cases xs with
    | nil=>rfl
    | cons x r=>
      have:=congrArg (fun b:ByteArray=>b.data.toList) h
      simp [jnB,pE,xZ] at this
  · rintro rfl;rfl
theorem aE5 {xs:List ByteArray} (h:jnB xs=⟨#[]⟩):aBs xs=sl1:=if_pos (aJy.1 h)
theorem aEf {xs:List ByteArray} (h:¬jnB xs=⟨#[]⟩):aBs xs=jnB xs:=if_neg (fun e=>h (aJy.2 e))
theorem aB1 {xs:List ByteArray} (h:∀s,s∈xs→cD s=0):(jnB xs).size≤5 * xs.length:=by
  have:=aFr h
  simpa [jnB,pE,ByteArray.size] using this
theorem aDr {xs:List ByteArray} (h:∀s,s∈xs→cD s=0):(aBs xs).size≤5 * xs.length+1:=by
  unfold aBs
  split
  · show(1:Nat)≤_;omega
  · have:=aB1 h;unfold jnB at this;omega
theorem oL {b:UInt8}:(b.toNat:Int)=47↔b=47:=⟨fun h=>UInt8.toNat_inj.1 (show b.toNat=(47:UInt8).toNat by have:(47:UInt8).toNat=47:=rfl;omega),fun h=>by subst h;rfl⟩
theorem aIc {s:ByteArray} (h:(s.size:Int)=0):yK s:= .inl (by rw [List.getElem?_eq_none (by rw [mV];omega)];simp)
theorem aKb {s:ByteArray}{b:UInt8} (hb:s.data.toList[0]? =some b) (h:¬(b.toNat:Int)=47):yK s:= .inl (by rw [hb];intro e;exact h (oL.2 (Option.some.inj e)))
theorem aM0 {s:ByteArray}{b:UInt8}{j:Nat} (hb:s.data.toList[j]? =some b) (hj:j=s.size - 1) (h:(b.toNat:Int)=47):yK s:= .inr (by rw [←hj,hb,oL.1 h])
theorem aL0 {s:ByteArray}{b c:UInt8}{j:Nat} (hb:s.data.toList[0]? =some b) (h:(b.toNat:Int)=47) (hc:s.data.toList[j]? =some c) (hj:j=s.size - 1) (hn:¬(c.toNat:Int)=47):¬yK s:=by
  rintro(h1 | h1)
  · exact h1 (by rw [hb,oL.1 h])
  · rw [←hj,hc] at h1;exact hn (oL.2 (Option.some.inj h1))
theorem aJ3 {s:ByteArray} (h:s.data.toList[0]? =some 47) (h2:¬s.data.toList[s.size - 1]? =some 47):¬yK s:=by
  rintro(h1 | h1)
  · exact h1 h
  · exact h2 h1
def kS (s:ByteArray):Int:=if fV s=0 then if dY s= []then 4 else 0 else fV s
def gS (s:ByteArray):List ByteArray:=if kS s=0 then(dY s).take ((dY s).length - 1)else []
def qS (s:ByteArray):ByteArray:=if kS s=0 then((dY s)[(dY s).length - 1]?).getD ⟨#[]⟩else⟨#[]⟩
theorem aF9 {s:ByteArray} (h:¬fV s=0):kS s=fV s∧gS s= []∧qS s=⟨#[]⟩:=by
  have:kS s=fV s:=if_neg h
  exact⟨this,by rw [gS,this,if_neg h],by rw [qS,this,if_neg h]⟩
theorem aG5 {s:ByteArray} (h:fV s=0) (h2:dY s= []):kS s=4∧gS s= []∧qS s=⟨#[]⟩:=by
  have:kS s=4:=by rw [kS,if_pos h,if_pos h2]
  exact⟨this,by rw [gS,this,if_neg (by decide)],by rw [qS,this,if_neg (by decide)]⟩
theorem aKw {s:ByteArray} (h:fV s=0) (h2:¬dY s= []):kS s=0∧gS s=(dY s).take ((dY s).length - 1)∧∀(j:Nat) x,j=(dY s).length - 1→(dY s)[j]? =some x→qS s=x:=by
  have:kS s=0:=by rw [kS,if_pos h,if_neg h2]
  exact⟨this,by rw [gS,if_pos this],fun j x hj hx=>by rw [qS,if_pos this,←hj,hx];rfl⟩
theorem aBb {α:Type}{xs:List α}:(xs.length:Int)=0↔xs= []:=by rw [←List.length_eq_zero_iff];omega
theorem aGk (s:ByteArray):(gS s).length≤6∧∀x,x∈gS s→cD x=0:=by
  have h:=pJ s
  unfold gS
  split
  · exact⟨by rw [List.length_take];omega,fun x hx=>h.2 x (List.mem_of_mem_take hx)⟩
  · simp
theorem xO (s:ByteArray):(qS s).size≤4:=by
  unfold qS
  split
  · cases hx:(dY s)[(dY s).length - 1]? with
    | none=>exact Nat.zero_le _
    | some x=>exact(rV ((pJ s).2 x (List.mem_of_getElem? hx))).1
  · exact Nat.zero_le _
theorem aCg {s:ByteArray}{a b B:Nat} (h:s.size≤B):(ByteArray.extract s a b).size≤B:=by rw [ByteArray.size_extract];omega
end Go.Proofs.YtmejbfmhaoilmaaGreat
/- What is proved: the library's contracts on strings, told of our kinds. No condition. -/
namespace Go.Proofs.YtmejbfmhaoilmaaGreat
open Go Go.RowKit
set_option linter.unusedVariables false
set_option linter.unusedSimpArgs false
def aDn (g:Nat) (w:World) (F:Bs):Prop:=∃m:Int,gP (iQ .i64) w F ⟨g,0,none⟩ m
theorem aDn.tr {g:Nat}{w0 w:World}{S0 S1:Bs}{lr:List Asn} (tr:Tr w0 S0 w S1 lr) (h:aDn g w0 (FF w0 S0)):aDn g w (FF w S1):=h.imp fun _ h=>tr.ctxP h
theorem aDn.cell {g:Nat}{w:World}{F:Bs} (h:aDn g w F):∃m:Int,w.cell? ⟨g,0,none⟩=some (.int .i64 m):=by
  obtain⟨m,ecs,hF,⟨rfl, -⟩,hc⟩:=h
  exact⟨m,by simpa [Addr.add] using hc 0 _ rfl⟩
theorem aDn.of {g:Nat}{w:World}{F:Bs} (hF:F g) (h:∃m:Int,w.cell? ⟨g,0,none⟩=some (.int .i64 m)):aDn g w F:=by
  obtain⟨m,hm⟩:=h
  refine⟨m,[.int .i64 m],hF,⟨rfl,trivial⟩,fun i u hu=> ?_⟩
  cases i with
  | zero=>simp at hu;subst hu;simpa [Addr.add] using hm
  | succ i=>simp at hu
end Go.Proofs.YtmejbfmhaoilmaaGreat
/- What is proved: a name put into a directory, in plain Lean. No condition. -/
namespace Go.Proofs.YtmejbfmhaoilmaaGreat
open Go Go.RowKit
set_option linter.unusedVariables false
set_option linter.unusedSimpArgs false
def qK (es:List aQ) (s:ByteArray):Nat:=(es.takeWhile (fun x=>sLt x.name s)).length
theorem nQ {s : ByteArray} : ∀ {es : List aQ} {k : Nat}, (∀ (j : Nat) e, j < k → es[j]? = some e → sLt e.name s = true) → k ≤ es.length → (k = es.length ∨ ∃ e, es[k]? = some e ∧ sLt e.name s = false) → qK es s = k
  | [],k,_,h,_=>by simp at h;subst h;rfl
  | e :: es,0,_,_,h=>by
      obtain h |⟨y,hy,hn⟩:=h
      · simp at h
      · simp at hy;subst hy;simp [qK,hn]
  | e :: es,k+1,ha,hk,h=>by
      have h0:=ha 0 e (by omega) (by simp)
      have ih:=nQ (s:=s) (es:=es) (k:=k) (fun j e hj he=>ha (j+1) e (by omega) (by simpa using he)) (by simpa using hk) (h.elim (fun h=> .inl (by simpa using h)) (fun⟨e,he,hn⟩=> .inr ⟨e,by simpa using he,hn⟩))
      unfold qK at ih ⊢
      simp [List.takeWhile_cons,h0,ih]
abbrev dL (es:List aQ) (n:aQ):List aQ:=es.take (qK es n.name)++ [n]++es.drop (qK es n.name)
theorem oQ {es:List aQ}{n:aQ}{k:Nat} (h:qK es n.name=k):es.take k++ [n]++es.drop k=dL es n:=by subst h;rfl
def mL (f:DFs) (a:Int) (s:ByteArray) (b:Int):Int:=
  if 0≤eI (aB f.inodes a) s then 7
  else if¬(bR f.inodes.length b∧aR f.inodes b≠0)then 4
  else if 6≤(aB f.inodes a).length∨(aR f.inodes b=1∧60≤bP f.inodes b)then 2 else 0
def aJg (f:DFs) (a:Int) (s:ByteArray) (b:Int):DFs:=
  if aR f.inodes b=1 then⟨eO (eD f.inodes a (dL (aB f.inodes a) ⟨s,b⟩)) b (bP f.inodes b+1),f.data⟩else bH f a (dL (aB f.inodes a) ⟨s,b⟩)
def iL (f:DFs) (a:Int) (s:ByteArray) (b:Int):DFs:=if mL f a s b=0 then aJg f a s b else f
theorem jB {f:DFs}{a b:Int}{s:ByteArray} (h:0≤eI (aB f.inodes a) s):mL f a s b=7:=if_pos h
theorem jD {f:DFs}{a b:Int}{s:ByteArray} (h:¬0≤eI (aB f.inodes a) s) (h2:¬(bR f.inodes.length b∧aR f.inodes b≠0)):mL f a s b=4:=by unfold mL;rw [if_neg h,if_pos h2]
theorem jE {f:DFs}{a b:Int}{s:ByteArray} (h:¬0≤eI (aB f.inodes a) s) (h2:bR f.inodes.length b∧aR f.inodes b≠0) (h3:6≤(aB f.inodes a).length∨(aR f.inodes b=1∧60≤bP f.inodes b)):mL f a s b=2:=by unfold mL;rw [if_neg h,if_neg (by intro h4;exact h4 h2),if_pos h3]
theorem eN {f:DFs}{a b:Int}{s:ByteArray} (h:¬0≤eI (aB f.inodes a) s) (h2:bR f.inodes.length b∧aR f.inodes b≠0) (h3:¬(6≤(aB f.inodes a).length∨(aR f.inodes b=1∧60≤bP f.inodes b))):mL f a s b=0:=by unfold mL;rw [if_neg h,if_neg (by intro h4;exact h4 h2),if_neg h3]
theorem dM {f:DFs}{a b:Int}{s:ByteArray} (h:¬mL f a s b=0):iL f a s b=f:=if_neg h
theorem gI {f:DFs}{a b:Int}{s:ByteArray} (h:mL f a s b=0) (h2:aR f.inodes b=1):iL f a s b=⟨eO (eD f.inodes a (dL (aB f.inodes a) ⟨s,b⟩)) b (bP f.inodes b+1),f.data⟩:=by unfold iL;rw [if_pos h,aJg,if_pos h2]
theorem gJ {f:DFs}{a b:Int}{s:ByteArray} (h:mL f a s b=0) (h2:¬aR f.inodes b=1):iL f a s b=bH f a (dL (aB f.inodes a) ⟨s,b⟩):=by unfold iL;rw [if_pos h,aJg,if_neg h2]
noncomputable def dB (f:DFs) (a:Int) (s:ByteArray) (b:Int):RFs:=if eE f a s=0 then if mL f a s b=0 then⟨0,aJg f a s b⟩else⟨mL f a s b,⟨[],[]⟩⟩else⟨eE f a s,⟨[],[]⟩⟩
theorem mR {f:DFs}{a b:Int}{s:ByteArray} (h:¬eE f a s=0):dB f a s b=⟨eE f a s,⟨[],[]⟩⟩:=if_neg h
theorem lB {f:DFs}{a b:Int}{s:ByteArray} (h:eE f a s=0) (h2:¬mL f a s b=0):dB f a s b=⟨mL f a s b,⟨[],[]⟩⟩:=by unfold dB;rw [if_pos h,if_neg h2]
theorem lH {f:DFs}{a b:Int}{s:ByteArray} (h:eE f a s=0) (h2:mL f a s b=0):dB f a s b=⟨0,iL f a s b⟩:=by unfold dB iL;rw [if_pos h,if_pos h2,if_pos h2]
theorem gM {xs:List aF} (h:bJ xs=0) {k:Int} (hk:¬aR xs k=1):bP xs k=0:=by
  unfold aR at hk
  unfold bP
  cases hx:xs[k.toNat]? with
  | none=>rfl
  | some x=>
    rw [hx] at hk
    simp only at hk ⊢
    have hf:=dT h x (List.mem_of_getElem? hx)
    unfold bV at hf
    split at hf
    · split at hf
      · exact absurd hf (by decide)
      · rename_i h1
        by_cases hl:x.links=0
        · exact hl
        · exact absurd (.inl ⟨hk,fun h2=>hl h2.1⟩) h1
    · exact absurd hf (by decide)
theorem eK {f:DFs}{a:Int}{s:ByteArray}{es:List aQ} (ht:bX f=0) (e:aB f.inodes a=es):(0≤eS (cA s) es∧0≤eI (aB f.inodes a) s)∨(eS (cA s) es<0∧eI (aB f.inodes a) s<0):=by
  subst e
  by_cases h:eS (cA s) (aB f.inodes a)<0
  · exact .inr ⟨h,by rw [sN h];decide⟩
  · obtain ⟨ix, hix, hil, -⟩ := kN (show ¬ eS (cA s) (aB f.inodes a) = -1 by omega)
    exact .inl ⟨by omega,by rw [uK hix];exact(zK ht hil).1⟩
end Go.Proofs.YtmejbfmhaoilmaaGreat
/- What is proved: where paths lead, in plain Lean. No condition. -/
namespace Go.Proofs.YtmejbfmhaoilmaaGreat
open Go Go.RowKit
set_option linter.unusedVariables false
set_option linter.unusedSimpArgs false
def wkC (xs : List aF) : Int → List ByteArray → Int × Int
  | a,[]=>(a,0)
  | a,n :: ns=>if aR xs a=2 then if eI (aB xs a) n<0 then(0,4)else wkC xs (eI (aB xs a) n) ns else(0,9)
theorem aLy {xs:List aF}{a:Int}{ns:List ByteArray}{k:Nat}{n:ByteArray} (h:ns[k]? =some n) (h2:¬aR xs a=2):wkC xs a (ns.drop k)=(0,9):=by
  rw [List.drop_eq_getElem?_toList_append,h]
  show wkC xs a (n :: ns.drop (k+1))=_
  rw [wkC,if_neg h2]
theorem aMp {xs:List aF}{a:Int}{ns:List ByteArray}{k:Nat}{n:ByteArray} (h:ns[k]? =some n) (h2:aR xs a=2) (h3:eI (aB xs a) n<0):wkC xs a (ns.drop k)=(0,4):=by
  rw [List.drop_eq_getElem?_toList_append,h]
  show wkC xs a (n :: ns.drop (k+1))=_
  rw [wkC,if_pos h2,if_pos h3]
theorem aNd {xs:List aF}{a:Int}{ns:List ByteArray}{k:Nat}{n:ByteArray} (h:ns[k]? =some n) (h2:aR xs a=2) (h3:¬eI (aB xs a) n<0):wkC xs a (ns.drop k)=wkC xs (eI (aB xs a) n) (ns.drop (k+1)):=by
  rw [List.drop_eq_getElem?_toList_append,h]
  show wkC xs a (n :: ns.drop (k+1))=_
  rw [wkC,if_pos h2,if_neg h3]
theorem aGu {xs:List aF}{a:Int}{ns:List ByteArray}{k:Nat} (h:ns.length≤k):wkC xs a (ns.drop k)=(a,0):=by rw [List.drop_eq_nil_of_le h];rfl
theorem yG {f : DFs} (ht : bX f = 0) : ∀ (ns : List ByteArray) (a : Int), bR f.inodes.length a → bR f.inodes.length (wkC f.inodes a ns).1
  | [],a,h=>h
  | n :: ns,a,h=>by
    have h0:bR f.inodes.length 0:=⟨Int.le_refl _,by have:=(tA (rI ht).1).2.1;omega⟩
    unfold wkC
    split
    · split
      · exact h0
      · rename_i h3;exact yG ht ns _ (tD ht h3)
    · exact h0
theorem tU {f:DFs} (ht:bX f=0):bR f.inodes.length 0:=⟨Int.le_refl _,by have:=(tA (rI ht).1).2.1;omega⟩
def dA (f:DFs) (s:ByteArray):Int×Int:=if fV s=0 then wkC f.inodes 0 (dY s)else(0,fV s)
theorem aD5 {f:DFs}{s:ByteArray} (h:¬fV s=0):dA f s=(0,fV s):=if_neg h
theorem aD4 {f:DFs}{s:ByteArray} (h:fV s=0):dA f s=wkC f.inodes 0 (dY s):=if_pos h
theorem aCr {f:DFs} (ht:bX f=0) (s:ByteArray):bR f.inodes.length (dA f s).1:=by
  unfold dA
  split
  · exact yG ht _ _ (tU ht)
  · exact tU ht
def aT (f:DFs) (s:ByteArray):Int×ByteArray×Int:=
  if kS s=0 then if(wkC f.inodes 0 (gS s)).2=0 then if aR f.inodes (wkC f.inodes 0 (gS s)).1=2 then((wkC f.inodes 0 (gS s)).1,qS s,0)else(0,⟨#[]⟩,9)else(0,⟨#[]⟩,(wkC f.inodes 0 (gS s)).2)else(0,⟨#[]⟩,kS s)
theorem aAw {f:DFs}{s:ByteArray} (h:¬kS s=0):aT f s=(0,⟨#[]⟩,kS s):=if_neg h
theorem aA8 {f:DFs}{s:ByteArray} (h:kS s=0) (h2:¬(wkC f.inodes 0 (gS s)).2=0):aT f s=(0,⟨#[]⟩,(wkC f.inodes 0 (gS s)).2):=by rw [aT,if_pos h,if_neg h2]
theorem aAt {f:DFs}{s:ByteArray} (h:kS s=0) (h2:(wkC f.inodes 0 (gS s)).2=0) (h3:¬aR f.inodes (wkC f.inodes 0 (gS s)).1=2):aT f s=(0,⟨#[]⟩,9):=by rw [aT,if_pos h,if_pos h2,if_neg h3]
theorem aAn {f:DFs}{s:ByteArray} (h:kS s=0) (h2:(wkC f.inodes 0 (gS s)).2=0) (h3:aR f.inodes (wkC f.inodes 0 (gS s)).1=2):aT f s=((wkC f.inodes 0 (gS s)).1,qS s,0):=by rw [aT,if_pos h,if_pos h2,if_pos h3]
theorem nR {f:DFs}{s:ByteArray}:(aT f s).2.1.size≤4:=by
  have:=xO s
  by_cases h1:kS s=0
  · by_cases h2 : (wkC f.inodes 0 (gS s)).2 = 0
    · by_cases h3 : aR f.inodes (wkC f.inodes 0 (gS s)).1 = 2
      · rw [aAn h1 h2 h3];exact this
      · rw [aAt h1 h2 h3];exact Nat.zero_le _
    · rw [aA8 h1 h2];exact Nat.zero_le _
  · rw [aAw h1];exact Nat.zero_le _
def tG (xs:List aF) (a:Int):Int:=match xs[a.toNat]? with | some x=>x.size | none=>0
theorem wH {xs:List aF}{a:Int}{j:Nat}{x:aF} (hx:xs[j]? =some x) (h:a=(j:Int)):tG xs a=x.size:=by
  subst h
  unfold tG
  rw [Int.toNat_natCast,hx]
def aB0 (f:DFs) (a:Int):aG7:=if aR f.inodes a=2 then⟨0,a,aR f.inodes a,1,((aB f.inodes a).length:Int)⟩else⟨0,a,aR f.inodes a,bP f.inodes a,tG f.inodes a⟩
theorem aEz {f:DFs}{a:Int} (h:aR f.inodes a=2):aB0 f a=⟨0,a,aR f.inodes a,1,((aB f.inodes a).length:Int)⟩:=if_pos h
theorem aEm {f:DFs}{a:Int} (h:¬aR f.inodes a=2):aB0 f a=⟨0,a,aR f.inodes a,bP f.inodes a,tG f.inodes a⟩:=if_neg h
noncomputable def kA (f:DFs) (s:ByteArray):aG7:=if fJ f=0 then if(dA f s).2=0 then aB0 f (dA f s).1 else⟨(dA f s).2,0,0,0,0⟩else⟨fJ f,0,0,0,0⟩
theorem wJ {f:DFs}{s:ByteArray} (h:¬fJ f=0):kA f s=⟨fJ f,0,0,0,0⟩:=if_neg h
theorem wN {f:DFs}{s:ByteArray} (h:fJ f=0) (h2:¬(dA f s).2=0):kA f s=⟨(dA f s).2,0,0,0,0⟩:=by rw [kA,if_pos h,if_neg h2]
theorem wM {f:DFs}{s:ByteArray} (h:fJ f=0) (h2:(dA f s).2=0):kA f s=aB0 f (dA f s).1:=by rw [kA,if_pos h,if_pos h2]
end Go.Proofs.YtmejbfmhaoilmaaGreat
/- What is proved: the answers of AddName. No condition. -/
namespace Go.Proofs.YtmejbfmhaoilmaaGreat
set_option linter.unusedVariables false
set_option linter.unusedSimpArgs false
theorem aB5 {xs:List aF} (h:bJ xs=0) (a:Int):(aB xs a).length≤6:=by
  unfold aB
  cases hx:xs[a.toNat]? with
  | none=>simp
  | some x=>exact aC9 (dT h x (List.mem_of_getElem? hx))
theorem nZ {f:DFs}{a b:Int}{s:ByteArray} (h:eE f a s=0):dB f a s b=fsR (iL f a s b) (mL f a s b):=by
  by_cases h2:mL f a s b=0
  · rw [lH h h2,aBu h2]
  · rw [lB h h2,aBx h2]
end Go.Proofs.YtmejbfmhaoilmaaGreat
/- What is proved: what a drawn tree keeps through all calls: its places lie where they should; plain Lean. No condition. -/
namespace Go.Proofs.YtmejbfmhaoilmaaGreat
open Go Go.RowKit
set_option linter.unusedVariables false
set_option linter.unusedSimpArgs false
structure Jx (n : Nat) (x : aF) : Prop where
  k:0≤x.kind∧x.kind≤2
  l:0≤x.links∧x.links≤60
  z:x.kind=1∨x.links=0
  s:0≤x.size∧x.size≤32
  b:∀b,b∈x.blocks→0≤b∧b≤19
  bl:x.blocks.length≤4
  e6:x.ents.length≤6
  e:∀e,e∈x.ents→(0≤e.ino∧e.ino<(n:Int))∧e.name.size≤4
structure J0 (f : DFs) : Prop where
  n:0<f.inodes.length∧f.inodes.length≤10
  d:f.data.length=20
  x:∀x,x∈f.inodes→Jx f.inodes.length x
structure Jf (f : DFs) : Prop extends J0 f where
  o:∀x,x∈f.inodes→x.kind=1→1≤x.links
theorem Jx.up {n m:Nat}{x:aF} (h:Jx n x) (hm:n≤m):Jx m x:=⟨h.k,h.l,h.z,h.s,h.b,h.bl,h.e6,fun e he=>by have:=h.e e he;exact⟨by omega,this.2⟩⟩
theorem aAb (n:Nat):Jx n ⟨0,0,0,[],[]⟩:=⟨by decide,by decide,.inr rfl,by decide,fun _ h=>absurd h (by simp),by decide,by decide,fun _ h=>absurd h (by simp)⟩
theorem aDy {n:Nat}{k:Int} (h:0≤k∧k≤2):Jx n ⟨k,0,0,[],[]⟩:=⟨h,by dsimp only;omega,.inr rfl,by dsimp only;omega,fun _ h=>absurd h (by simp),by simp,by simp,fun _ h=>absurd h (by simp)⟩
theorem J0.get {f:DFs} (h:J0 f) {j:Nat}{x:aF} (hx:f.inodes[j]? =some x):Jx f.inodes.length x:=h.x x (List.mem_of_getElem? hx)
theorem aL7 : Jf ⟨[⟨2, 0, 0, [], []⟩], List.replicate 20 []⟩ where
  n:=by decide
  d:=by simp
  x:=fun x hx=>by obtain rfl:=List.mem_singleton.1 hx;exact aDy (by decide)
  o:=fun x hx hk=>by obtain rfl:=List.mem_singleton.1 hx;exact absurd hk (by decide)
theorem aAe {α:Type}{xs:List α}{j:Nat}{y z:α} (h:z∈xs.set j y):z=y∨z∈xs:=by
  obtain⟨i,hi⟩:=List.mem_iff_getElem?.1 h
  rw [List.getElem?_set] at hi
  split at hi
  · split at hi
    · exact .inl (Option.some.inj hi).symm
    · cases hi
  · exact .inr (List.mem_of_getElem? hi)
theorem aA3 {xs : List aF} {d : List (List UInt8)} {j : Nat} {y : aF} (h : J0 ⟨xs, d⟩) (hy : Jx xs.length y) : J0 ⟨xs.set j y, d⟩ where
  n:=by simpa using h.n
  d:=h.d
  x:=fun x hx=>by
    show Jx (xs.set j y).length x
    rw [List.length_set]
    rcases aAe hx with rfl | hx
    · exact hy
    · exact h.x x hx
theorem aE2 {xs : List aF} {d : List (List UInt8)} {j : Nat} {y : aF} (h : Jf ⟨xs, d⟩) (hy : Jx xs.length y) (ho : y.kind = 1 → 1 ≤ y.links) : Jf ⟨xs.set j y, d⟩ where
  toJ0:=aA3 h.toJ0 hy
  o:=fun x hx=>by
    rcases aAe hx with rfl | hx
    · exact ho
    · exact h.o x hx
theorem aC7 {xs:List aF}{d d':List (List UInt8)} (h:Jf ⟨xs,d⟩) (hd:d'.length=20):Jf ⟨xs,d'⟩:=⟨⟨h.n,hd,h.x⟩,h.o⟩
theorem aKq {xs : List aF} {d : List (List UInt8)} (h : Jf ⟨xs, d⟩) (hl : xs.length < 10) : Jf ⟨xs ++ [⟨0, 0, 0, [], []⟩], d⟩ where
  n:=by simp;omega
  d:=h.d
  x:=fun x hx=>by
    show Jx (xs++ [_]).length x
    rw [List.length_append]
    rcases List.mem_append.1 hx with hx | hx
    · exact(h.x x hx).up (by show xs.length≤_;omega)
    · obtain rfl:=List.mem_singleton.1 hx;exact aAb _
  o:=fun x hx hk=>by
    rcases List.mem_append.1 hx with hx | hx
    · exact h.o x hx hk
    · obtain rfl:=List.mem_singleton.1 hx;exact absurd hk (by decide)
theorem aH3 {f:DFs} (h:J0 f) {a:Int}{i:Nat}{e:aQ} (he:(aB f.inodes a)[i]? =some e):bR f.inodes.length e.ino∧e.name.size≤4:=by
  unfold aB at he
  cases hx:f.inodes[a.toNat]? with
  | none=>rw [hx] at he;simp at he
  | some x=>
    rw [hx] at he
    have:=(h.get hx).e e (List.mem_of_getElem? he)
    exact⟨⟨this.1.1,by omega⟩,this.2⟩
theorem kJ {f:DFs} (h:J0 f) (a:Int):(aB f.inodes a).length≤6:=by
  unfold aB
  cases hx:f.inodes[a.toNat]? with
  | none=>simp
  | some x=>exact(h.get hx).e6
theorem qP {f:DFs} (h:J0 f) {a:Int}{i:Nat} (hi:i<(aB f.inodes a).length):bR f.inodes.length (eY (aB f.inodes a) i):=by
  obtain⟨e,he⟩:=aI hi
  rw [mZ he]
  exact(aH3 h he).1
theorem vP {f:DFs} (h:J0 f) {a:Int}{s:ByteArray} (hk:¬eI (aB f.inodes a) s<0):bR f.inodes.length (eI (aB f.inodes a) s):=by
  obtain⟨ix,hi⟩:=yB hk
  have hr:=gN (cA s) (aB f.inodes a)
  rw [uK hi]
  exact qP h (by omega)
theorem fE {f:DFs}{a:Int}{s:ByteArray}{es:List aQ} (h:J0 f) (e:aB f.inodes a=es):(0≤eS (cA s) es∧0≤eI (aB f.inodes a) s)∨(eS (cA s) es<0∧eI (aB f.inodes a) s<0):=by
  subst e
  by_cases hk:eS (cA s) (aB f.inodes a)<0
  · exact .inr ⟨hk,by rw [sN hk];decide⟩
  · obtain ⟨ix, hix, hil, -⟩ := kN (show ¬ eS (cA s) (aB f.inodes a) = -1 by omega)
    exact .inl ⟨by omega,by rw [uK hix];exact(qP h hil).1⟩
theorem jV {f:DFs} (h:J0 f):bR f.inodes.length 0:=⟨Int.le_refl _,by have:=h.n.1;omega⟩
theorem pK {f : DFs} (h : J0 f) : ∀ (ns : List ByteArray) (a : Int), bR f.inodes.length a → bR f.inodes.length (wkC f.inodes a ns).1
  | [],a,ha=>ha
  | n :: ns,a,ha=>by
    unfold wkC
    split
    · split
      · exact jV h
      · rename_i h3;exact pK h ns _ (vP h h3)
    · exact jV h
theorem qH {f:DFs} (h:J0 f) (s:ByteArray):bR f.inodes.length (dA f s).1:=by
  unfold dA
  split
  · exact pK h _ _ (jV h)
  · exact jV h
theorem lN {f:DFs} (h:J0 f) (s:ByteArray):bR f.inodes.length (aT f s).1:=by
  by_cases h1:kS s=0
  · by_cases h2 : (wkC f.inodes 0 (gS s)).2 = 0
    · by_cases h3 : aR f.inodes (wkC f.inodes 0 (gS s)).1 = 2
      · rw [aAn h1 h2 h3];exact pK h _ _ (jV h)
      · rw [aAt h1 h2 h3];exact jV h
    · rw [aA8 h1 h2];exact jV h
  · rw [aAw h1];exact jV h
theorem jG {f:DFs} (h:J0 f):∀(j:Nat) (x:aF),f.inodes[j]? =some x→∀(i:Nat) (e:aQ),x.ents[i]? =some e→e.ino<(f.inodes.length:Int):=fun j x hx i e he=>((h.get hx).e e (List.mem_of_getElem? he)).1.2
theorem rZ {n:Nat}{x:aF} (h:Jx n x):∀(j:Nat) (e:aQ),x.ents[j]? =some e→(0≤e.ino∧e.ino<(n:Int))∧e.name.size≤4:=fun j e he=>h.e e (List.mem_of_getElem? he)
theorem yR {f:DFs} (h:J0 f) (k:Int):0≤bP f.inodes k∧bP f.inodes k≤60:=by
  unfold bP
  cases hx:f.inodes[k.toNat]? with
  | none=>simp
  | some x=>exact(h.get hx).l
theorem aCu {f:DFs} (h:J0 f) {k:Int} (hk:aR f.inodes k=1):0≤bP f.inodes k∧bP f.inodes k≤60:=yR h k
theorem kI {f:DFs} (h:J0 f) {k:Int} (hk:¬aR f.inodes k=1):bP f.inodes k=0:=by
  unfold aR at hk
  unfold bP
  cases hx:f.inodes[k.toNat]? with
  | none=>rfl
  | some x=>
    rw [hx] at hk
    exact(h.get hx).z.resolve_left hk
theorem aMe {f:DFs} (h:J0 f) (k:Int):0≤aR f.inodes k∧aR f.inodes k≤2:=by
  unfold aR
  cases hx:f.inodes[k.toNat]? with
  | none=>simp
  | some x=>exact(h.get hx).k
theorem aNh {f:DFs} (h:J0 f) (k:Int):0≤tG f.inodes k∧tG f.inodes k≤32:=by
  unfold tG
  cases hx:f.inodes[k.toNat]? with
  | none=>simp
  | some x=>exact(h.get hx).s
theorem aF7 {f:DFs} (h:J0 f) (s:ByteArray):(0≤(kA f s).kind∧(kA f s).kind≤2)∧(0≤(kA f s).links∧(kA f s).links≤60)∧(0≤(kA f s).size∧(kA f s).size≤32):=by
  unfold kA
  split
  · split
    · have h1 := aMe h (dA f s).1
      have h2:=yR h (dA f s).1
      have h3:=aNh h (dA f s).1
      have h4:=kJ h (dA f s).1
      unfold aB0
      split
      · dsimp only;omega
      · dsimp only;omega
    · dsimp only;omega
  · dsimp only;omega
theorem aI1 {f:DFs} (h:J0 f) (k:Int):∀b,b∈fM f.inodes k→0≤b∧b≤19:=by
  unfold fM
  cases hx:f.inodes[k.toNat]? with
  | none=>intro b hb;cases hb
  | some x=>exact(h.get hx).b
theorem aBf {α : Type} {f : α → Nat} (h : ∀ x, f x ≤ 1) : ∀ xs : List α, fQ f xs ≤ xs.length
  | []=>Nat.zero_le _
  | x :: xs=>by have h1:=h x;have h2:=aBf h xs;simp only [fQ,List.length_cons];omega
theorem aFc {f:DFs} (h:J0 f) (k:Int):eL f.inodes k≤60:=by
  have h1:eL f.inodes k≤f.inodes.length * 6:=tV fun x hx=>Nat.le_trans (aBf (fun e=>by unfold lJ;split <;> omega) x.ents) (h.x x hx).e6
  have:=h.n.2
  omega
theorem aFm {f : DFs} (h : Jf f) {k : Int} (hp : bR f.inodes.length k) : tQ f k where
  p:=hp
  d:=h.d
  b:=aI1 h.toJ0 k
  l:=aFc h.toJ0 k
  k:=fun hk=>by
    refine⟨?_,(yR h.toJ0 k).2⟩
    unfold aR at hk
    unfold bP
    cases hx:f.inodes[k.toNat]? with
    | none=>rw [hx] at hk;exact absurd hk (by decide)
    | some x=>rw [hx] at hk;exact h.o x (List.mem_of_getElem? hx) hk
theorem aCn {f:DFs} (h:J0 f) {a:Int}{es:List aQ} (h6:es.length≤6) (he:∀e,e∈es→bR f.inodes.length e.ino∧e.name.size≤4):J0 (bH f a es):=by
  show J0 ⟨eD f.inodes a es,f.data⟩
  unfold eD
  split
  · rename_i y hy
    have:=h.get hy
    exact aA3 h ⟨this.k,this.l,this.z,this.s,this.b,this.bl,h6,fun e hm=>⟨⟨(he e hm).1.1,by have:=(he e hm).1.2;omega⟩,(he e hm).2⟩⟩
  · exact h
theorem aJh {f:DFs} (h:Jf f) {a:Int}{es:List aQ} (h6:es.length≤6) (he:∀e,e∈es→bR f.inodes.length e.ino∧e.name.size≤4):Jf (bH f a es):=by
  refine⟨aCn h.toJ0 h6 he,?_⟩
  show∀x,x∈eD f.inodes a es→x.kind=1→1≤x.links
  unfold eD
  split
  · rename_i y hy
    intro x hx
    rcases aAe hx with rfl | hx
    · exact h.o y (List.mem_of_getElem? hy)
    · exact h.o x hx
  · exact h.o
theorem aBr {xs:List aF}{a:Int}{e:aQ} (h:e∈aB xs a):∃i:Nat,(aB xs a)[i]? =some e:=List.mem_iff_getElem?.1 h
theorem wK {f:DFs} (h:Jf f) {a:Int}{i:Nat}:Jf (bH f a ((aB f.inodes a).eraseIdx i)):=
  aJh h (Nat.le_trans (List.length_eraseIdx_le _ _) (kJ h.toJ0 a)) fun e he=>by
    obtain⟨j,hj⟩:=aBr (List.mem_of_mem_eraseIdx he)
    exact aH3 h.toJ0 hj
theorem uF {es:List aQ}{n e:aQ} (h:e∈dL es n):e=n∨e∈es:=by
  simp only [dL,List.mem_append,List.mem_singleton] at h
  rcases h with (h | h) | h
  · exact .inr (List.mem_of_mem_take h)
  · exact .inl h
  · exact .inr (List.mem_of_mem_drop h)
theorem tY {es:List aQ}{n:aQ}:(dL es n).length=es.length+1:=by
  simp only [dL,List.length_append,List.length_take,List.length_drop,List.length_cons,List.length_nil]
  omega
theorem aKn {f:DFs} (h:J0 f) {a:Int}{e:aQ} (h5:(aB f.inodes a).length≤5) (hp:bR f.inodes.length e.ino) (hn:e.name.size≤4):J0 (bH f a (dL (aB f.inodes a) e)):=
  aCn h (by rw [tY];omega) fun e' he=>by
    rcases uF he with rfl | he
    · exact⟨hp,hn⟩
    · obtain⟨j,hj⟩:=aBr he;exact aH3 h hj
theorem aEj {f:DFs} (h:J0 f) {a n:Int} (hk:aR f.inodes a=1) (hn:1≤n∧n≤60) (ho:∀(j:Nat) x,f.inodes[j]? =some x→j≠a.toNat→x.kind=1→1≤x.links):Jf ⟨eO f.inodes a n,f.data⟩:=by
  unfold eO
  unfold aR at hk
  cases hx:f.inodes[a.toNat]? with
  | none=>rw [hx] at hk;exact absurd hk (by decide)
  | some y=>
    rw [hx] at hk
    simp only at hk ⊢
    have:=h.get hx
    refine⟨aA3 h ⟨this.k,by dsimp only;omega,.inl hk,this.s,this.b,this.bl,this.e6,this.e⟩,fun x hm hk1=> ?_⟩
    obtain⟨i,hi⟩:=List.mem_iff_getElem?.1 hm
    rw [List.getElem?_set] at hi
    split at hi
    · split at hi
      · obtain rfl:=Option.some.inj hi;exact hn.1
      · cases hi
    · rename_i hne;exact ho i x hi (fun e=>hne e.symm) hk1
theorem aK5 {f:DFs} (h:Jf f) (k:Int):Jf (sX f k):=
  aC7 (aE2 h (aAb _) (fun hk=>absurd hk (by decide))) (by rw [lR];exact h.d)
theorem aKc {f:DFs} (h:Jf f) (k:Int):Jf (gQ f k):=by
  by_cases h1:aR f.inodes k=1
  · by_cases h2 : 1 < bP f.inodes k
    · rw [mY h1 h2]
      exact aEj h.toJ0 h1 (by have:=yR h.toJ0 k;omega) fun j x hx _=>h.o x (List.mem_of_getElem? hx)
    · by_cases h3 : eL f.inodes k = 0
      · rw [kL h1 h2 h3];exact aK5 h k
      · rw [nP h1 h2 h3];exact h
  · rw [mT h1];exact h
def jF (f:DFs) (a:Int) (i:Nat):DFs:=
  if aR (gQ (bH f a ((aB f.inodes a).eraseIdx i)) (eY (aB f.inodes a) i)).inodes (eY (aB f.inodes a) i)=2 then⟨(gQ (bH f a ((aB f.inodes a).eraseIdx i)) (eY (aB f.inodes a) i)).inodes.set (eY (aB f.inodes a) i).toNat ⟨0,0,0,[],[]⟩,(gQ (bH f a ((aB f.inodes a).eraseIdx i)) (eY (aB f.inodes a) i)).data⟩
  else gQ (bH f a ((aB f.inodes a).eraseIdx i)) (eY (aB f.inodes a) i)
theorem aD6 {f:DFs}{a:Int}{i:Nat} (h:aR (gQ (bH f a ((aB f.inodes a).eraseIdx i)) (eY (aB f.inodes a) i)).inodes (eY (aB f.inodes a) i)=2):jF f a i=⟨(gQ (bH f a ((aB f.inodes a).eraseIdx i)) (eY (aB f.inodes a) i)).inodes.set (eY (aB f.inodes a) i).toNat ⟨0,0,0,[],[]⟩,(gQ (bH f a ((aB f.inodes a).eraseIdx i)) (eY (aB f.inodes a) i)).data⟩:=if_pos h
theorem aEd {f:DFs}{a:Int}{i:Nat} (h:¬aR (gQ (bH f a ((aB f.inodes a).eraseIdx i)) (eY (aB f.inodes a) i)).inodes (eY (aB f.inodes a) i)=2):jF f a i=gQ (bH f a ((aB f.inodes a).eraseIdx i)) (eY (aB f.inodes a) i):=if_neg h
theorem xN {f:DFs}{k:Int}:(gQ f k).inodes.length=f.inodes.length:=by
  unfold gQ
  split
  · split
    · exact bN
    · split
      · simp
      · rfl
  · rfl
theorem jH {f:DFs} (h:Jf f) (a:Int) (i:Nat):Jf (jF f a i):=by
  have h1:=aKc (wK h (a:=a) (i:=i)) (eY (aB f.inodes a) i)
  unfold jF
  split
  · exact aE2 h1 (aAb _) (fun hk=>absurd hk (by decide))
  · exact h1
theorem zC {f:DFs}{a:Int}{i:Nat}:(jF f a i).inodes.length=f.inodes.length:=by
  unfold jF
  split
  · rw [List.length_set,xN];exact bB
  · rw [xN];exact bB
theorem rY {xs:List aF}{j:Nat}{y:aF}{d:Int} (h:d.toNat≠j):aB (xs.set j y) d=aB xs d:=by
  unfold aB
  rw [List.getElem?_set_ne (fun e=>h e.symm)]
theorem tK {xs:List aF}{a n d:Int}:aB (eO xs a n) d=aB xs d:=by
  unfold aB
  cases h:(eO xs a n)[d.toNat]? with
  | none=>rw [List.getElem?_eq_none_iff,bN] at h;rw [List.getElem?_eq_none h]
  | some y=>obtain⟨x,hx,rfl⟩:=vH _ y h;rw [hx]
theorem oI {xs:List aF}{a d:Int}{es:List aQ} (h:a.toNat<xs.length):aB (eD xs a es) d=if d.toNat=a.toNat then es else aB xs d:=by
  unfold aB
  cases hg:(eD xs a es)[d.toNat]? with
  | none=>
    rw [List.getElem?_eq_none_iff,bB] at hg
    rw [if_neg (by omega),List.getElem?_eq_none hg]
  | some y=>obtain⟨x,hx,rfl⟩:=lW _ y hg;rw [hx]
theorem zQ {f:DFs}{k d:Int} (h:d.toNat≠k.toNat):aB (gQ f k).inodes d=aB f.inodes d:=by
  unfold gQ
  split
  · split
    · exact tK
    · split
      · exact rY h
      · rfl
  · rfl
theorem yW {f:DFs}{k d:Int}:(aB (gQ f k).inodes d).length≤(aB f.inodes d).length:=by
  by_cases h:d.toNat=k.toNat
  · unfold gQ
    split
    · split
      · rw [tK];exact Nat.le_refl _
      · split
        · show (aB (f.inodes.set k.toNat ⟨0, 0, 0, [], []⟩) d).length ≤ _
          by_cases hl:k.toNat<f.inodes.length
          · have : aB (f.inodes.set k.toNat ⟨0, 0, 0, [], []⟩) d = [] := by unfold aB; rw [h, List.getElem?_set_self hl]
            rw [this];exact Nat.zero_le _
          · rw [List.set_eq_of_length_le (by omega)];exact Nat.le_refl _
        · exact Nat.le_refl _
    · exact Nat.le_refl _
  · rw [zQ h];exact Nat.le_refl _
theorem yX {xs:List aF}{j:Nat}{d:Int}:(aB (xs.set j ⟨0,0,0,[],[]⟩) d).length≤(aB xs d).length:=by
  by_cases h:d.toNat=j
  · by_cases hl : j < xs.length
    · have : aB (xs.set j ⟨0, 0, 0, [], []⟩) d = [] := by unfold aB; rw [h, List.getElem?_set_self hl]
      rw [this];exact Nat.zero_le _
    · rw [List.set_eq_of_length_le (by omega)];exact Nat.le_refl _
  · rw [rY h];exact Nat.le_refl _
theorem aDv {f:DFs}{a d:Int}{i:Nat} (ha:a.toNat<f.inodes.length) (hd:d.toNat≠(eY (aB f.inodes a) i).toNat):aB (jF f a i).inodes d=if d.toNat=a.toNat then(aB f.inodes a).eraseIdx i else aB f.inodes d:=by
  have h1:aB (gQ (bH f a ((aB f.inodes a).eraseIdx i)) (eY (aB f.inodes a) i)).inodes d=if d.toNat=a.toNat then(aB f.inodes a).eraseIdx i else aB f.inodes d:=by
    rw [zQ hd];exact oI ha
  unfold jF
  split
  · show aB (List.set _ _ _) d = _
    rw [rY hd];exact h1
  · exact h1
theorem uU {f:DFs}{a:Int}{i:Nat} (ha:a.toNat<f.inodes.length) (hi:i<(aB f.inodes a).length):(aB (jF f a i).inodes a).length+1≤(aB f.inodes a).length:=by
  have h0:(aB (bH f a ((aB f.inodes a).eraseIdx i)).inodes a).length+1=(aB f.inodes a).length:=by
    show(aB (eD f.inodes a _) a).length+1=_
    rw [oI ha,if_pos rfl,List.length_eraseIdx_of_lt hi];omega
  have h1:=yW (f:=bH f a ((aB f.inodes a).eraseIdx i)) (k:=eY (aB f.inodes a) i) (d:=a)
  unfold jF
  split
  · have h2 := yX (xs := (gQ (bH f a ((aB f.inodes a).eraseIdx i)) (eY (aB f.inodes a) i)).inodes) (j := (eY (aB f.inodes a) i).toNat) (d := a)
    show(aB (List.set _ _ _) a).length+1≤_
    omega
  · omega
theorem aJ2 {f:DFs} (h:J0 f) {a b:Int}{s:ByteArray} (hs:s.size≤4) (ho:mL f a s b=0∨Jf f) (hf:∀(j:Nat) x,f.inodes[j]? =some x→j≠b.toNat→x.kind=1→1≤x.links):Jf (iL f a s b):=by
  by_cases hc:mL f a s b=0
  · have hc' := hc
    unfold mL at hc'
    split at hc'
    · exact absurd hc' (by decide)
    · split at hc'
      · exact absurd hc' (by decide)
      · split at hc'
        · exact absurd hc' (by decide)
        · rename_i h1 h2 h3
          have h2':bR f.inodes.length b∧aR f.inodes b≠0:=Classical.byContradiction h2
          have hj:=aKn h (a:=a) (e:=⟨s,b⟩) (by omega) h2'.1 hs
          have hoth:∀(j:Nat) x,(eD f.inodes a (dL (aB f.inodes a) ⟨s,b⟩))[j]? =some x→j≠b.toNat→x.kind=1→1≤x.links:=fun j x hx hne hk=>by
            obtain⟨y,hy,rfl⟩:=lW _ x hx
            exact hf j y hy hne hk
          by_cases hk:aR f.inodes b=1
          · rw [gI hc hk]
            exact aEj hj (by rw [lE];exact hk) (by have:=yR h b;omega) hoth
          · rw [gJ hc hk]
            refine⟨hj,fun x hx hk1=> ?_⟩
            obtain⟨j,hjx⟩:=List.mem_iff_getElem?.1 hx
            by_cases hjb:j=b.toNat
            · subst hjb
              obtain⟨y,hy,rfl⟩:=lW _ x hjx
              unfold aR at hk
              rw [hy] at hk
              exact absurd hk1 hk
            · exact hoth j x hjx hjb hk1
  · rw [dM hc]
    exact ho.elim (fun h=>absurd h hc) id
theorem xS {f:DFs} (h:Jf f) {a b:Int}{s:ByteArray} (hs:s.size≤4):Jf (iL f a s b):=aJ2 h.toJ0 hs (.inr h) fun j x hx _=>h.o x (List.mem_of_getElem? hx)
theorem aLa {f:DFs} (h:Jf f) {xs:List aF} (hxs:xs=f.inodes∨(f.inodes.length<10∧xs=f.inodes++ [⟨0,0,0,[],[]⟩])) {a b k:Int}{s:ByteArray} (hk:1≤k∧k≤2) (hb:0≤b∧b<(xs.length:Int)) (hs:s.size≤4) (hl:eI (aB xs a) s<0) (h6:(aB xs a).length<6) (hne:a.toNat≠b.toNat):
    J0 ⟨xs.set b.toNat ⟨k,0,0,[],[]⟩,f.data⟩∧Jf (iL ⟨xs.set b.toNat ⟨k,0,0,[],[]⟩,f.data⟩ a s b):=by
  have hj:Jf ⟨xs,f.data⟩:=by
    rcases hxs with rfl |⟨h1,rfl⟩
    · exact h
    · exact aKq h h1
  have h0:=aA3 hj.toJ0 (j:=b.toNat) (aDy (n:=xs.length) (k:=k) (by omega))
  have hlt:b.toNat<xs.length:=by omega
  have hkb:aR (xs.set b.toNat ⟨k,0,0,[],[]⟩) b=k:=by unfold aR;rw [List.getElem?_set_self hlt]
  have hlb:bP (xs.set b.toNat ⟨k,0,0,[],[]⟩) b=0:=by unfold bP;rw [List.getElem?_set_self hlt]
  have hea:aB (xs.set b.toNat ⟨k,0,0,[],[]⟩) a=aB xs a:=rY hne
  have hc:mL ⟨xs.set b.toNat ⟨k,0,0,[],[]⟩,f.data⟩ a s b=0:=by
    refine eN ?_ ?_ ?_
    · show ¬ 0 ≤ eI (aB (xs.set b.toNat _) a) s
      rw [hea];omega
    · show bR (xs.set b.toNat _).length b ∧ aR (xs.set b.toNat _) b ≠ 0
      rw [hkb,List.length_set]
      exact⟨⟨hb.1,by omega⟩,by omega⟩
    · show ¬ (6 ≤ (aB (xs.set b.toNat _) a).length ∨ (aR (xs.set b.toNat _) b = 1 ∧ 60 ≤ bP (xs.set b.toNat _) b))
      rw [hea,hlb];omega
  refine⟨h0,aJ2 h0 hs (.inl hc) fun j x hx hne hk1=> ?_⟩
  have hx':(xs.set b.toNat ⟨k,0,0,[],[]⟩)[j]? =some x:=hx
  rw [List.getElem?_set_ne (fun e=>hne e.symm)] at hx'
  exact hj.o x (List.mem_of_getElem? hx') hk1
theorem aK8 {f:DFs} (h:Jf f) {a:Int}{L:List UInt8}{ws:List Int} (hL:L.length≤32) (hw:∀b,b∈ws→0≤b∧b≤19) (hl:ws.length≤4):Jf (aKe f a L ws):=by
  have hd:(vI (iZ f a) ws L ws.length).length=20:=by rw [tT,lR];exact h.d
  show Jf ⟨vZ f.inodes a L.length ws,vI (iZ f a) ws L ws.length⟩
  unfold vZ
  cases hx:f.inodes[a.toNat]? with
  | none=>exact aC7 (xs:=f.inodes) h hd
  | some y=>
    have:=h.get hx
    exact aC7 (aE2 (y:=⟨y.kind,y.links,L.length,ws,y.ents⟩) h ⟨this.k,this.l,this.z,by dsimp only;omega,hw,hl,this.e6,this.e⟩ (h.o y (List.mem_of_getElem? hx))) hd
theorem aFw {xs:List aF}{a n:Int}{ws:List Int}:(vZ xs a n ws).length=xs.length:=by
  unfold vZ;split <;> simp
theorem aIe {f:DFs} (h:Jf f) {a:Int}{L:List UInt8}{busy:List Int} (hc:(vC f a L busy).code=0):Jf (vC f a L busy).fs∧(vC f a L busy).fs.inodes.length=f.inodes.length:=by
  by_cases h1:(L.length:Int)≤32
  · by_cases h2 : (fX f L busy).code = 0
    · rw [aA1 h1 h2]
      have hp:=aEr h2
      have h9:((fX f L busy).list.length:Int)=((L.length:Int)+7) / 8:=hp.2
      exact⟨aK8 h (by omega) hp.1 (by omega),aFw⟩
    · rw [aAk h1 h2] at hc;exact absurd hc h2
  · rw [aAz h1] at hc;exact absurd hc (by decide)
theorem aIt {f:DFs} (h:Jf f) {a i:Int}{ys:List UInt8}{busy:List Int} (hc:(hY f a i ys busy).code=0):Jf (hY f a i ys busy).fs∧(hY f a i ys busy).fs.inodes.length=f.inodes.length:=by
  unfold hY at hc ⊢
  split at hc
  · rename_i h1
    rw [if_pos h1]
    split at hc
    · rename_i h2
      rw [if_pos h2]
      split at hc
      · exact absurd hc (by decide)
      · rename_i h3
        rw [if_neg h3]
        split at hc
        · rename_i h4;rw [if_pos h4];exact⟨h,rfl⟩
        · rename_i h4;rw [if_neg h4];exact aIe h hc
    · exact absurd hc (by decide)
  · rename_i h1;exact absurd hc h1
theorem aMy {f:DFs} (h:Jf f) {a n:Int}{busy:List Int} (hc:(pT f a n busy).code=0):Jf (pT f a n busy).fs∧(pT f a n busy).fs.inodes.length=f.inodes.length:=by
  unfold pT at hc ⊢
  split at hc
  · rename_i h1
    rw [if_pos h1]
    split at hc
    · rename_i h2;rw [if_pos h2];exact aIe h hc
    · exact absurd hc (by decide)
  · rename_i h1;exact absurd hc h1
theorem vR {es:List aQ}{s:ByteArray}{e:aQ} (h:e∈es) (hn:e.name=s):0≤eS (cA s) es:=by
  unfold eS
  cases hf:es.findIdx? (cA s) with
  | some i=>simp only;omega
  | none=>
    have:=List.findIdx?_eq_none_iff.1 hf e h
    simp [hn] at this
theorem aFi {α:Type}{xs:List α}{i j:Nat}{x:α} (h:xs[i]? =some x) (hne:i≠j):x∈xs.eraseIdx j:=by
  by_cases hlt:i<j
  · exact List.mem_of_getElem? (i:=i) (by rw [List.getElem?_eraseIdx_of_lt hlt];exact h)
  · exact List.mem_of_getElem? (i:=i - 1) (by rw [List.getElem?_eraseIdx_of_ge (by omega),show i - 1+1=i by omega];exact h)
theorem zE {f : DFs} (h : Jf f) {d t : Int} {s : ByteArray} {i k : Nat} (hd : bR f.inodes.length d) (ht : bR f.inodes.length t) (hi : eS (cA s) (aB f.inodes d) = (i : Int)) (hk : k < (aB f.inodes t).length)
    (hne:eY (aB f.inodes t) k≠eY (aB f.inodes d) i) (h0:(aB f.inodes (eY (aB f.inodes t) k)).length=0):0≤eS (cA s) (aB (jF f t k).inodes d):=by
  have hr:=gN (cA s) (aB f.inodes d)
  obtain⟨e,he⟩:=aI (xs:=aB f.inodes d) (j:=i) (by omega)
  have hen:e.name=s:=by
    unfold eS at hi
    cases hf:(aB f.inodes d).findIdx? (cA s) with
    | none=>rw [hf] at hi;simp only at hi;omega
    | some q=>
      rw [hf] at hi
      obtain rfl:q=i:=by simp only at hi;omega
      obtain⟨h1,h2, -⟩:=List.findIdx?_eq_some_iff_getElem.1 hf
      rw [List.getElem?_eq_getElem h1] at he
      obtain rfl:=Option.some.inj he
      exact of_decide_eq_true h2
  have hp:=qP h.toJ0 hk
  have hdo:d.toNat≠(eY (aB f.inodes t) k).toNat:=fun e2=>by
    have:d=eY (aB f.inodes t) k:=by have:=hd.1;have:=hp.1;omega
    rw [←this] at h0
    have:=(List.getElem?_eq_some_iff.1 he).1
    omega
  rw [aDv (by have:=ht.1;have:=ht.2;omega) hdo]
  split
  · rename_i hdt
    obtain rfl:d=t:=by have:=hd.1;have:=ht.1;omega
    refine vR (aFi he fun e2=> ?_) hen
    subst e2
    exact hne rfl
  · exact vR (List.mem_of_getElem? he) hen
theorem aCe (xs:List aF): -1≤dH xs∧dH xs≤(xs.length:Int):=by
  unfold dH
  cases hf:xs.findIdx? (fun x=>decide (x.kind=0)) with
  | none=>simp only;split <;> omega
  | some i=>have:=(List.findIdx?_eq_some_iff_getElem.1 hf).1;simp only;omega
theorem aFd {xs:List aF} (h:dH xs=(xs.length:Int)) (h10:xs.length≤10):xs.length<10:=by
  unfold dH at h
  cases hf:xs.findIdx? (fun x=>decide (x.kind=0)) with
  | none=>rw [hf] at h;simp only at h;split at h <;> omega
  | some i=>rw [hf] at h;have:=(List.findIdx?_eq_some_iff_getElem.1 hf).1;simp only at h;omega
theorem aFy {xs:List aF} (h:0≤dH xs):aR xs (dH xs)=0:=by
  unfold dH at h ⊢
  cases hf:xs.findIdx? (fun x=>decide (x.kind=0)) with
  | none=>
    simp only
    split
    · rename_i h1;rw [hf,if_pos h1] at h;exact absurd h (by decide)
    · exact pY (Int.le_refl _)
  | some i=>
    obtain⟨h1,h2, -⟩:=List.findIdx?_eq_some_iff_getElem.1 hf
    simp only
    rw [cH (List.getElem?_eq_getElem h1) rfl]
    exact of_decide_eq_true h2
theorem aFa {f:DFs}{s:ByteArray} (h:(aT f s).2.2=0):aR f.inodes (aT f s).1=2:=by
  by_cases h1:kS s=0
  · by_cases h2 : (wkC f.inodes 0 (gS s)).2 = 0
    · by_cases h3 : aR f.inodes (wkC f.inodes 0 (gS s)).1 = 2
      · rw [aAn h1 h2 h3];exact h3
      · rw [aAt h1 h2 h3] at h;exact absurd h (by decide)
    · rw [aA8 h1 h2] at h;exact absurd h h2
  · rw [aAw h1] at h;exact absurd h h1
theorem aFz {xs:List aF}{y:aF}{a:Int} (h:a.toNat<xs.length):aB (xs++ [y]) a=aB xs a:=by
  unfold aB
  rw [List.getElem?_append_left h]
theorem aMk {f : DFs} (hj : Jf f) {p : ByteArray} {k : Int} {xs : List aF} (hk : 1 ≤ k ∧ k ≤ 2) (hc : (aT f p).2.2 = 0) (hl : eS (cA (aT f p).2.1) (aB f.inodes (aT f p).1) < 0) (h6 : (aB f.inodes (aT f p).1).length < 6) (hb : 0 ≤ dH f.inodes)
    (hxs:(¬dH f.inodes=(f.inodes.length:Int)∧xs=f.inodes)∨(dH f.inodes=(f.inodes.length:Int)∧xs=f.inodes++ [⟨0,0,0,[],[]⟩])):
    J0 ⟨xs.set (dH f.inodes).toNat ⟨k,0,0,[],[]⟩,f.data⟩∧Jf (iL ⟨xs.set (dH f.inodes).toNat ⟨k,0,0,[],[]⟩,f.data⟩ (aT f p).1 (aT f p).2.1 (dH f.inodes))∧
    bR (xs.set (dH f.inodes).toNat ⟨k,0,0,[],[]⟩).length (aT f p).1∧(aB (xs.set (dH f.inodes).toNat ⟨k,0,0,[],[]⟩) (aT f p).1).length≤6:=by
  have hp:=lN hj.toJ0 p
  have hr:=aCe f.inodes
  have h10:=hj.n.2
  have ha:(aT f p).1.toNat<f.inodes.length:=by have:=hp.1;have:=hp.2;omega
  have hne:(aT f p).1.toNat≠(dH f.inodes).toNat:=fun e=>by
    have h1:=aFa hc
    have h2:=aFy hb
    rw [show dH f.inodes=(aT f p).1 by have:=hp.1;omega] at h2
    omega
  have he:aB xs (aT f p).1=aB f.inodes (aT f p).1:=by
    rcases hxs with ⟨-,rfl⟩ |⟨-,rfl⟩
    · rfl
    · exact aFz ha
  have hlen:(dH f.inodes)<(xs.length:Int)∧f.inodes.length≤xs.length:=by
    rcases hxs with ⟨h1,rfl⟩ |⟨h1,rfl⟩
    · omega
    · rw [List.length_append];simp only [List.length_cons,List.length_nil];omega
  have hm:=aLa hj (xs:=xs) (a:=(aT f p).1) (b:=dH f.inodes) (k:=k) (s:=(aT f p).2.1) (by
    rcases hxs with ⟨h1,rfl⟩ |⟨h1,rfl⟩
    · exact .inl rfl
    · exact .inr ⟨aFd h1 h10,rfl⟩) hk ⟨hb,hlen.1⟩ nR (by rw [he,sN hl];decide) (by rw [he];exact h6) hne
  refine⟨hm.1,hm.2,?_,?_⟩
  · rw [List.length_set];exact⟨hp.1,by have:=hp.2;omega⟩
  · rw [rY hne,he];omega
theorem aHl {G:DFs} (h:Jf G) {j:Nat}{y:aF}{e:aQ} (hy:G.inodes[j]? =some y) (h5:y.ents.length≤5) (hp:bR G.inodes.length e.ino) (hn:e.name.size≤4):Jf ⟨G.inodes.set j ⟨y.kind,y.links,y.size,y.blocks,dL y.ents e⟩,G.data⟩:=by
  have:=h.get hy
  refine aE2 (xs:=G.inodes) (d:=G.data) h ⟨this.k,this.l,this.z,this.s,this.b,this.bl,by show(dL y.ents e).length≤6;rw [tY];omega,fun e' he=> ?_⟩ (h.o y (List.mem_of_getElem? hy))
  rcases uF he with rfl | he
  · exact⟨⟨hp.1,by have:=hp.2;omega⟩,hn⟩
  · exact this.e e' he
theorem aEo {F:DFs}{d t:Int}{i:Nat} (hd:bR F.inodes.length d) (ht:bR F.inodes.length t) (hi:i<(aB F.inodes d).length):(aB (bH F d ((aB F.inodes d).eraseIdx i)).inodes t).length≤(aB F.inodes t).length∧(t=d→(aB (bH F d ((aB F.inodes d).eraseIdx i)).inodes t).length+1≤(aB F.inodes t).length):=by
  have h1:aB (bH F d ((aB F.inodes d).eraseIdx i)).inodes t=if t.toNat=d.toNat then(aB F.inodes d).eraseIdx i else aB F.inodes t:=oI (by have:=hd.1;have:=hd.2;omega)
  rw [h1]
  split
  · rename_i h2
    obtain rfl:t=d:=by have:=hd.1;have:=ht.1;omega
    rw [List.length_eraseIdx_of_lt hi]
    omega
  · rename_i h2
    exact⟨Nat.le_refl _,fun e=>absurd (by rw [e]) h2⟩
end Go.Proofs.YtmejbfmhaoilmaaGreat
/- What is proved: a slice of one's own opened up in the middle, and the gap filled; zeros appended; two slices apart. No condition. -/
namespace Go.Proofs.YtmejbfmhaoilmaaGreat
open Go Go.RowKit
set_option linter.unusedVariables false
set_option linter.unusedSimpArgs false
def aHy {α : Type} (K : Kd α) (g e c : Nat) (xs : List α) (i m : Nat) : Asn where
  p w S:=S g∧∃(cur:Array Value) (css:List (List Value)),w.heap[g]? =some (.cells cur e (0,0))∧cur.size=c * K.sz∧css.length=xs.length∧(∀d,d∈css→d.length=K.sz)∧(∀w' S',cB (iW K xs css) w' S')∧
    cur.toList.take (i * K.sz)=(css.take i).flatten∧(cur.toList.drop ((i+m) * K.sz)).take ((xs.length - i) * K.sz)=(css.drop i).flatten
  up h hs:=⟨hs _ h.1,h.2⟩
  loc:=by rintro w w' S ⟨h,cur,css,h1,h2⟩ hs;exact⟨h,cur,css,by rw [hs g h];exact h1,h2⟩
  lt:=by rintro w S ⟨h,cur,css,h1,h2⟩;exact⟨⟨h,(Array.getElem?_eq_some_iff.1 h1).1⟩,cur,css,h1,h2⟩
theorem aHa {α:Type}{xs ys:List α}{x0:α}{i k:Nat} (hi:i<xs.length) (hk:k=xs.length+ys.length - i):
    ((((xs.take i++List.replicate k x0).take i++ys++(xs.take i++List.replicate k x0).drop (i+ys.length)).take (i+ys.length))++fY xs i xs.length++(((xs.take i++List.replicate k x0).take i++ys++(xs.take i++List.replicate k x0).drop (i+ys.length)).drop (i+ys.length+(fY xs i xs.length).length)))=xs.take i++ys++xs.drop i:=by
  have h1:(xs.take i).length=i:=by rw [List.length_take];omega
  have h2:(xs.take i++List.replicate k x0).take i=xs.take i:=List.take_left' h1
  have h3:(xs.take i++ys).length=i+ys.length:=by rw [List.length_append,h1]
  have h4:(fY xs i xs.length).length=xs.length - i:=fR (Nat.le_refl _)
  rw [h2,List.take_left' h3,h4]
  have h5:fY xs i xs.length=xs.drop i:=by unfold fY;rw [List.take_length]
  rw [h5]
  have h6:(xs.take i++ys++(xs.take i++List.replicate k x0).drop (i+ys.length)).drop (i+ys.length+(xs.length - i))= []:=by
    apply List.drop_of_length_le
    simp only [List.length_append,List.length_drop,List.length_replicate,h1]
    omega
  rw [h6,List.append_nil]
theorem aIq {α:Type}{xs ys:List α}{i:Nat} (h:(i:Int)=(xs.length:Int)):xs++ys=xs.take i++ys++xs.drop i:=by
  rw [show i=xs.length by omega,List.take_length,List.drop_length,List.append_nil]
section
variable {P:Program}{T:eZ}{o:Oper}{w0:World}{S0:Bs}{l l':List Asn}
theorem zN {x s:Operand}{t t':TypeId}{a:Act}{w w':World}{u v r:Value} (ho:o.op= .call {callee:= .builtin .copy,args:= #[x,s],argTypes:= #[t,t']}) (hx:a.eval x=u) (hs:a.eval s=v) (h:(Builtin.copy_ #[t,t'] o.type #[u,v]).run P w= .ok r w'):(execOp a.eval o).run P w= .ok (.value r) w':=by
  simp only [execOp,ho,hx,hs]
  simp [resolve,hx,hs,invoke,builtin,h]
theorem aFv {α : Type} {K : Kd α} (hK : wG K) {e by_ i m c c1 c2 : Nat} {xs : List α} {ad : Addr} {A1 A2 : Option Addr} {x s : Operand} {t t' : TypeId} (ho : o.op = .call { callee := .builtin .copy, args := #[x, s], argTypes := #[t, t'] }) (ht : P.underlying t = some (.slice e))
    (hi:(P.info? e).map (·.size)=some K.sz) (hx:Val T x (.slice A1 (xs.length - i) c1)) (h1A:A1=(if c=i+m then some ad else some (ad.add ((i+m) * K.sz)))) (hs:Val T s (.slice A2 (xs.length+m - i) c2)) (h2A:A2=(if c=i then some ad else some (ad.add (i * K.sz))))
    (hT:kD l [aG (bA e by_ K) xs [.slice (some ad) xs.length c]] l') (hil:i<xs.length) (hm:0<m) (hc:xs.length+m≤c):
    Eff P o T w0 S0 l (fun r l2=>∃g,ad=⟨g,0,none⟩∧r= .int .i64 ((xs.length - i:Nat):Int)∧l2=aHy K g e c xs i m :: l'):=by
  intro a w ha hw
  obtain⟨S1,hA1,tr,hkk⟩:=(hw.takes hT).eff
  obtain⟨i0,k1,k2⟩:=Option.map_eq_some_iff.1 hi
  rcases(show(bA e by_ K).own w S1 xs [.slice (some ad) xs.length c] from hA1.head) with ⟨A,hv,rfl⟩ |⟨g,cc,css,hv,h1,h2,h3,h4,h5⟩
  · simp only [List.length_nil] at hil;omega
  have hv':=List.singleton_inj.1 hv
  injection hv' with e1 e2 e3
  obtain rfl:=Option.some.inj e1
  subst e3
  obtain⟨B1,B2,⟨hg,cur,q1,q2,q3,q4⟩,hseq,i1,i2,dd⟩:=h5
  have hlc:=mF h4 hseq
  have hfl:css.flatten.length=xs.length * K.sz:=by rw [gE hlc,h4]
  have hdr:(css.drop i).flatten=css.flatten.drop (i * K.sz):=qA hlc i
  have hld:(css.drop i).flatten.length=(xs.length - i) * K.sz:=by rw [hdr,List.length_drop,hfl,Nat.sub_mul]
  have hone:∀u,u∈(css.drop i).flatten→u.oneCell'=true:=fun u hu=>by
    obtain⟨d,hd,hu2⟩:=List.mem_flatten.1 hu
    exact(aB9 h4 hseq d (List.mem_of_mem_drop hd)).2 u hu2
  have hcz:(xs.length+m) * K.sz≤c * K.sz:=Nat.mul_le_mul_right _ hc
  have hiz:i * K.sz≤xs.length * K.sz:=Nat.mul_le_mul_right _ (by omega)
  have hsum:(xs.length - i) * K.sz+i * K.sz=xs.length * K.sz:=by rw [←Nat.add_mul];congr 1;omega
  have him:(i+m) * K.sz=i * K.sz+m * K.sz:=Nat.add_mul ..
  have hnm:(xs.length+m) * K.sz=xs.length * K.sz+m * K.sz:=Nat.add_mul ..
  have hpos:=K.pos
  have hcur:cur.toList.length=cur.size:=Array.length_toList
  have hlA:A1=some ((⟨g,0,none⟩:Addr).add ((i+m) * K.sz)):=by rw [h1A,if_neg (by omega)]
  have hlB:A2=some ((⟨g,0,none⟩:Addr).add (i * K.sz)):=by rw [h2A,if_neg (by omega)]
  have hst:=run_storeCells_at P g ((i+m) * K.sz) e (css.drop i).flatten 0 cur w q1 (by omega) hone
  simp only [Nat.add_zero,hld] at hst
  have hcell:∀j u,(css.drop i).flatten[j]? =some u→w.cell? (((⟨g,0,none⟩:Addr).add (i * K.sz)).add j)=some u:=fun j u hu=>by
    rw [hdr,List.getElem?_drop] at hu
    rw [gA,fO]
    exact nW (S:=B1) ⟨hg,cur,q1,q2,q3,q4⟩ hu
  have hfc:=run_firstCells_some (P:=P) w K.sz (xs.length - i) ((⟨g,0,none⟩:Addr).add (i * K.sz)) (xs.length+m - i) c2 (css.drop i).flatten hld hcell
  have hne:∀q,q≠g→(w.setRow g (cur.toList.take ((i+m) * K.sz)++(css.drop i).flatten++cur.toList.drop ((i+m) * K.sz+(xs.length - i) * K.sz)).toArray).heap[q]? =w.heap[q]? :=fun q hq=>setRow_other w g q _ hq
  have hall:∀w' S',cB (iW K xs css) w' S':=fun w' S'=>rA hK h4 (fun j y d hy hd=>K.own_ro (oB hseq hy hd)) w' S'
  refine⟨.int .i64 ((xs.length - i:Nat):Int),_,_,?_,⟨g,rfl,rfl,rfl⟩,hkk _ [aHy K g e c xs i m] S1 (cB.one (c:=aHy K g e c xs i m) ⟨i1 g hg,_,css,setRow_heap w g cur _ e _ q1,?_,h4,hlc,hall,?_,?_⟩) (fun b hb=> .inl hb) ⟨rfl,rfl,rfl,by simp,fun b hb hn=>hne b (fun e=>hn (e ▸ i1 g hg))⟩⟩
  · refine zN ho (hx a ha) (hs a ha) ?_
    have hmin:Nat.min (xs.length+m - i) (xs.length - i)=xs.length - i:=Nat.min_eq_right (by omega)
    rw [hlA,hlB,fO,fO]
    rw [fO] at hfc
    simp [Builtin.copy_,run_underlying ht,Builtin.lenOf,sizeOf,typeInfo,k1,k2,hmin,hfc,hst,goInt]
  · simp only [List.size_toArray,List.length_append,List.length_take,List.length_drop,hld];omega
  · have hq:css.flatten.take (i * K.sz)=cur.toList.take (i * K.sz):=by
      rw [←q4,List.take_take,Nat.min_eq_left (by omega)]
    rw [kK hlc,hq]
    simp only [List.append_assoc]
    rw [List.take_append_of_le_length (by rw [List.length_take];omega),List.take_take,Nat.min_eq_left (by omega)]
  · have e1 : (cur.toList.take ((i + m) * K.sz)).length = (i + m) * K.sz := by rw [List.length_take]; omega
    simp only [List.append_assoc]
    rw [List.drop_append_of_le_length (by omega),List.drop_of_length_le (by omega),List.nil_append,List.take_append_of_le_length (by omega),List.take_of_length_le (by omega)]
theorem aCy {α : Type} {K : Kd α} (hK : wG K) {e by_ e2 by2 g i m c c1 : Nat} {xs ys : List α} {A1 : Option Addr} {xv : Value} {x s : Operand} {t t' : TypeId} (ho : o.op = .call { callee := .builtin .copy, args := #[x, s], argTypes := #[t, t'] }) (ht : P.underlying t = some (.slice e))
    (hi:(P.info? e).map (·.size)=some K.sz) (hx:Val T x (.slice A1 (xs.length+m - i) c1)) (h1A:A1=(if c=i then some ⟨g,0,none⟩else some ((⟨g,0,none⟩:Addr).add (i * K.sz)))) (hs:Val T s xv)
    (hT:kD l [aHy K g e c xs i m] l') (hsrc:∀w S1,Tr w0 S0 w S1 l'→(bA e2 by2 K).ro w (FF w S1) ys [xv]) (hil:i<xs.length) (hm:ys.length=m) (hm0:0<m) (hc:xs.length+m≤c) (h63:c≤9223372036854775807) (hb:(xs.length+m) * by_≤140737488355328):
    Eff P o T w0 S0 l (fun r l2=>r= .int .i64 (m:Int)∧l2=aG (bA e by_ K) (xs.take i++ys++xs.drop i) [.slice (some ⟨g,0,none⟩) (xs.length+m) c] :: l'):=by
  intro a w ha hw
  obtain⟨S1,hA1,tr,hkk⟩:=(hw.takes hT).eff
  obtain⟨css2,g1,g2,g3⟩:=xM (hsrc w S1 tr)
  obtain⟨i0,k1,k2⟩:=Option.map_eq_some_iff.1 hi
  obtain⟨b,c2,rfl,hcell⟩:∃b c,xv= .slice (some b) ys.length c∧∀j u,css2.flatten[j]? =some u→w.cell? (b.add j)=some u:=by
    rcases g2.from_ with h1 |⟨_,h1⟩
    · exact h1
    · omega
  obtain⟨hg,cur,css,q1,q2,q3,q4,q5,q6,q7⟩:=(show(aHy K g e c xs i m).p w S1 from hA1.head)
  have hl2:css2.flatten.length=m * K.sz:=by rw [←hm];exact g2.len
  have hn:css2.length=ys.length:=g1
  have hlc2:∀d,d∈css2→d.length=K.sz:=fun d hd=>by
    obtain⟨j,hj,rfl⟩:=List.mem_iff_getElem.1 hd
    obtain⟨y,hy⟩:=aI (xs:=ys) (j:=j) (by omega)
    exact K.ro_len (g3 j y _ hy (List.getElem?_eq_getElem hj))
  have hone:∀u,u∈css2.flatten→u.oneCell'=true:=fun u hu=>by
    obtain⟨d,hd,hu2⟩:=List.mem_flatten.1 hu
    obtain⟨j,hj,rfl⟩:=List.mem_iff_getElem.1 hd
    obtain⟨y,hy⟩:=aI (xs:=ys) (j:=j) (by omega)
    exact K.ro_one (g3 j y _ hy (List.getElem?_eq_getElem hj)) u hu2
  have hcz:(xs.length+m) * K.sz≤c * K.sz:=Nat.mul_le_mul_right _ hc
  have hiz:i * K.sz≤xs.length * K.sz:=Nat.mul_le_mul_right _ (by omega)
  have hsum:(xs.length - i) * K.sz+i * K.sz=xs.length * K.sz:=by rw [←Nat.add_mul];congr 1;omega
  have him:(i+m) * K.sz=i * K.sz+m * K.sz:=Nat.add_mul ..
  have hnm:(xs.length+m) * K.sz=xs.length * K.sz+m * K.sz:=Nat.add_mul ..
  have hcur:cur.toList.length=cur.size:=Array.length_toList
  have hlA:A1=some ((⟨g,0,none⟩:Addr).add (i * K.sz)):=by rw [h1A,if_neg (by omega)]
  have hst:=run_storeCells_at P g (i * K.sz) e css2.flatten 0 cur w q1 (by omega) hone
  simp only [Nat.add_zero,hl2] at hst
  have hfc:=run_firstCells_some (P:=P) w K.sz ys.length b ys.length c2 css2.flatten (by rw [hl2,hm]) hcell
  have hne:∀q,q≠g→(w.setRow g (cur.toList.take (i * K.sz)++css2.flatten++cur.toList.drop (i * K.sz+m * K.sz)).toArray).heap[q]? =w.heap[q]? :=fun q hq=>setRow_other w g q _ hq
  have hxl:(xs.take i++ys++xs.drop i).length=xs.length+m:=by
    simp only [List.length_append,List.length_take,List.length_drop];omega
  have hcl:(css.take i++css2++css.drop i).length=(xs.take i++ys++xs.drop i).length:=by
    simp only [List.length_append,List.length_take,List.length_drop];omega
  have hlt:((css.take i).flatten).length=i * K.sz:=by rw [kK q4,List.length_take,gE q4,q3];omega
  have hldr:((css.drop i).flatten).length=(xs.length - i) * K.sz:=by rw [qA q4,List.length_drop,gE q4,q3,Nat.sub_mul]
  have hseq2:∀(w':World) (S':Bs),cB (iW K (xs.take i++ys++xs.drop i) (css.take i++css2++css.drop i)) w' S':=fun w' S'=>by
    refine rA hK (w:=w) (F:=fun _=>True) hcl (fun j y d hy hd=> ?_) w' S'
    have hti:(xs.take i).length=i:=by rw [List.length_take];omega
    have htc:(css.take i).length=i:=by rw [List.length_take];omega
    have up:∀{F:Bs}{y:α}{d:List Value},K.ro w F y d→K.ro w (fun _=>True) y d:=fun h=>K.ro_up h (fun _ _=>trivial)
    by_cases hj:j<i
    · rw [List.append_assoc, List.getElem?_append_left (by omega), List.getElem?_take, if_pos hj] at hy hd
      exact up (K.own_ro (oB (q5 w (fun _=>False)) hy hd))
    · rw [List.append_assoc, List.getElem?_append_right (by omega), hti] at hy
      rw [List.append_assoc,List.getElem?_append_right (by omega),htc] at hd
      by_cases hj2:j - i<ys.length
      · rw [List.getElem?_append_left hj2] at hy
        rw [List.getElem?_append_left (by omega)] at hd
        exact up (g3 _ y d hy hd)
      · rw [List.getElem?_append_right (by omega), List.getElem?_drop] at hy
        rw [List.getElem?_append_right (by omega),List.getElem?_drop,hn] at hd
        exact up (K.own_ro (oB (q5 w (fun _=>False)) hy hd))
  refine⟨.int .i64 (m:Int),_,_,?_,⟨rfl,rfl⟩,hkk _ [aG (bA e by_ K) (xs.take i++ys++xs.drop i) [.slice (some ⟨g,0,none⟩) (xs.length+m) c]] S1 (cB.one (c:=aG (bA e by_ K) _ _) (.inr ⟨g,c,css.take i++css2++css.drop i,by rw [hxl],by rw [hxl];exact hc,h63,by rw [hxl];exact hb,hcl,S1,fun _=>False,⟨hg,_,setRow_heap w g cur _ e _ q1,?_,?_,?_⟩,hseq2 _ _,fun _ h=>h,fun _ h=>h.elim,fun _ _ h=>h⟩)) (fun b hb=> .inl hb) ⟨rfl,rfl,rfl,by simp,fun b hb hn=>hne b (fun e=>hn (e ▸ hg))⟩⟩
  · refine zN ho (hx a ha) (hs a ha) ?_
    have hmin:Nat.min ys.length (xs.length+m - i)=ys.length:=Nat.min_eq_left (by omega)
    rw [hlA,fO]
    subst hm
    simp [Builtin.copy_,run_underlying ht,Builtin.lenOf,sizeOf,typeInfo,k1,k2,hmin,hfc,hst,goInt]
  · simp only [List.size_toArray,List.length_append,List.length_take,List.length_drop,hl2];omega
  · simp only [List.flatten_append,List.size_toArray,List.length_append,List.length_take,List.length_drop,hl2,hlt,hldr];omega
  · have e2 : (cur.toList.drop (i * K.sz + m * K.sz)).take ((xs.length - i) * K.sz) = (css.drop i).flatten := by rw [← him]; exact q7
    have e3:(css.take i++css2++css.drop i).flatten=cur.toList.take (i * K.sz)++css2.flatten++(cur.toList.drop (i * K.sz+m * K.sz)).take ((xs.length - i) * K.sz):=by
      rw [List.flatten_append,List.flatten_append,q6,e2]
    have e4:(cur.toList.take (i * K.sz)++css2.flatten).length=i * K.sz+m * K.sz:=by rw [List.length_append,List.length_take,hl2];omega
    have e5:((cur.toList.drop (i * K.sz+m * K.sz)).take ((xs.length - i) * K.sz)).length=(xs.length - i) * K.sz:=by rw [e2,hldr]
    rw [e3]
    show(cur.toList.take (i * K.sz)++css2.flatten++cur.toList.drop (i * K.sz+m * K.sz)).take _=_
    rw [List.length_append,e4,e5,List.take_append,e4,List.take_of_length_le (by omega)]
    congr 2
    omega
theorem aFo {α β:Type}{K:Kd α}{K2:Kd β}{e by_ e2 by2 n c n2 c2:Nat}{xs:List α}{ys:List β}{ad ad2:Addr}{w:World}{S:Bs} (h:cB [aG (bA e by_ K) xs [.slice (some ad) n c],aG (bA e2 by2 K2) ys [.slice (some ad2) n2 c2]] w S) (hx:0<xs.length) (hy:0<ys.length):
    ∃g g2,ad=⟨g,0,none⟩∧ad2=⟨g2,0,none⟩∧g≠g2∧(∃cur,w.heap[g]? =some (.cells cur e (0,0))∧0<cur.size)∧∃cur2,w.heap[g2]? =some (.cells cur2 e2 (0,0))∧0<cur2.size:=by
  obtain⟨A,B,hA,hB,i1,i2,d⟩:=h
  have hB':(bA e2 by2 K2).own w B ys [.slice (some ad2) n2 c2]:=hB.head (c:=aG (bA e2 by2 K2) ys _)
  rcases(show(bA e by_ K).own w A xs [.slice (some ad) n c] from hA) with ⟨A0,hv,rfl⟩ |⟨g,cc,css,hv,h1,h2,h3,h4,A1,A2,⟨hg,cur,q1,q2,q3,q4⟩,hs1,j1,j2,dd⟩
  · simp at hx
  rcases hB' with ⟨A0,hv2,rfl⟩ |⟨g2,cc2,css2,hv2,p1,p2,p3,p4,B1,B2,⟨hg2,cur2,r1,r2,r3,r4⟩,hs2,o1,o2,dd2⟩
  · simp at hy
  have e1:=List.singleton_inj.1 hv
  have e2':=List.singleton_inj.1 hv2
  injection e1 with e1 _ _
  injection e2' with e2' _ _
  obtain rfl:=Option.some.inj e1
  obtain rfl:=Option.some.inj e2'
  refine⟨g,g2,rfl,rfl,fun he=>d g (j1 g hg) (he ▸ o1 g2 hg2),⟨cur,q1,?_⟩,cur2,r1,?_⟩
  · rw [q2];exact Nat.mul_pos (by omega) K.pos
  · rw [r2];exact Nat.mul_pos (by omega) K2.pos
theorem aHg {f:FuncId}{as_:Array Operand}{ts:Array TypeId}{a:Act}{w:World}{args:Array Value}{r:Value} (ho:o.op= .call {callee:= .value (.func f),args:=as_,argTypes:=ts}) (ha:as_.map a.eval=args) (h:(callFunc f args).run P w= .ok (.value r) w):(execOp a.eval o).run P w= .ok (.value r) w:=by
  simp only [execOp,ho]
  simp [resolve,ha,Act.eval,Deferred.ofValue,invoke,h]
theorem aC6 {α β : Type} {K : Kd α} {K2 : Kd β} {f : FuncId} {fn : Func} {tS tR e by_ by2 n c n2 c2 i lb cb : Nat} {xs : List α} {ys : List β} {ad ad2 : Addr} {B : Option Addr} {x y : Operand} {ts : Array TypeId}
    (ho:o.op= .call {callee:= .value (.func f),args:= #[x,y],argTypes:=ts}) (hf:P.funcs[f]? =some fn) (hname:(fn.name == "runtime.NumGoroutine")=false) (hb:fn.body.isNone=true) (hnx:Extern.findNext fn=none) (he:Extern.find fn=some (Extern.SlicesOverlaps.overlaps #[tS,tS] #[tR]))
    (ht:P.underlying tS=some (.slice e)) (hi:(P.info? e).map (·.size)=some K.sz) (hx:Val T x (.slice (some ad2) n2 c2)) (hy:Val T y (.slice B lb cb)) (hB:B=(if c=i then some ad else some (ad.add (i * K.sz))))
    (hT:kD l [aG (bA e by_ K) xs [.slice (some ad) n c],aG (bA e by2 K2) ys [.slice (some ad2) n2 c2]] l') (hx0:0<xs.length) (hy0:0<ys.length):
    Eff P o T w0 S0 l (fun r l2=>r= .bool false∧l2=aG (bA e by_ K) xs [.slice (some ad) n c] :: aG (bA e by2 K2) ys [.slice (some ad2) n2 c2] :: l'):=by
  intro a w ha hw
  obtain⟨S1,hA1,tr,hkk⟩:=(hw.takes hT).eff
  obtain⟨g,g2,e1,e2,hne,⟨cur,q1,q2⟩,cur2,r1,r2⟩:=aFo hA1 hx0 hy0
  obtain⟨i0,k1,k2⟩:=Option.map_eq_some_iff.1 hi
  refine⟨.bool false,w,_,aHg ho (by simp [hx a ha,hy a ha]: #[x,y].map a.eval= #[.slice (some ad2) n2 c2,.slice B lb cb]) ?_,⟨rfl,rfl⟩,hkk w _ S1 hA1 (fun b hb=> .inl hb) (Fr.refl _ _)⟩
  have hz:∀w,(Go.sizeOf e).run P w= .ok K.sz w:=fun w=>by simp [sizeOf,typeInfo,k1,k2]
  obtain⟨b',hb',hbb⟩:∃b':Addr,B=some b'∧b'.block=g:=by
    subst e1
    rw [hB]
    split
    · exact⟨_,rfl,rfl⟩
    · exact⟨_,rfl,by rw [kO]⟩
  subst hb'
  rw [run_callFunc_extern hf hname hb hnx he,Lib.run_overlaps_apart w tS tR e ht K.sz hz ad2 b' n2 c2 lb cb (by rw [hbb,e2];exact fun h=>hne h.symm) e e cur2.size cur.size (by rw [e2];simp [World.shape?,r1]) (by rw [hbb];simp [World.shape?,q1]) (by omega) (by rw [e2];simp [World.frozen?,r1]) (by rw [e2];simp [World.frozen?,r1])]
  rfl
theorem zZ {α : Type} {K : Kd α} (hK : wG K) {e by_ i k n c : Nat} {xs : List α} {x0 : α} {ad : Addr} {z : Value} {s q : Operand} {t tn : TypeId} {kq kn : IntKind} (ho : o.op = .call { callee := .builtin .append, args := #[s, q], argTypes := #[t, tn] }) (ht : P.underlying t = some (.slice e)) (htn : P.underlying tn = some (.int kn))
    (hi:(P.info? e).map (fun i=>(i.size,i.bytes,i.zero))=some (K.sz,by_,some z)) (hz:z.cells.size=K.sz) (h0:∀w S,K.own w S x0 z.cells.toList) (hs:Val T s (.slice (some ad) i c)) (hq:Val T q (.int kq (k:Int)))
    (hT:kD l [aG (bA e by_ K) xs [.slice (some ad) n c]] l') (hil:i<xs.length) (hk:0<k) (hg:c<i+k) (hb:(i+k) * by_≤140737488355328) (h63:i+k≤140737488355328):
    Eff P o T w0 S0 l (fun r l2=>l2=aG (bA e by_ K) (xs.take i++List.replicate k x0) [r] :: aG (bA e by_ K) xs [.slice (some ad) n c] :: l'):=by
  intro a w ha hw
  obtain⟨S1,hA1,tr,hkk⟩:=(hw.takes hT).eff
  obtain⟨i0,k1,k2⟩:=Option.map_eq_some_iff.1 hi
  obtain⟨k2,k3⟩:=Prod.mk.inj k2
  obtain⟨k3,k4⟩:=Prod.mk.inj k3
  have hold0:=hA1.head
  rcases(show(bA e by_ K).own w S1 xs [.slice (some ad) n c] from hold0) with ⟨A,hv,rfl⟩ |⟨g,cc,css,hv,h1,h2,h3,h4,h5⟩
  · simp at hil
  have hv':=List.singleton_inj.1 hv
  injection hv' with e1 e2 e3
  obtain rfl:=Option.some.inj e1
  subst e3
  obtain⟨B1,B2,⟨hg1,cur,q1,q2,q3,q4⟩,hseq,i1,i2,dd⟩:=h5
  have hlc:=mF h4 hseq
  have hlt:((css.take i).flatten).length=i * K.sz:=by
    have h6:i * K.sz≤xs.length * K.sz:=Nat.mul_le_mul_right _ (by omega)
    rw [kK hlc,List.length_take,gE hlc,h4];omega
  have hpos:=K.pos
  have hold:=run_firstCells_some (P:=P) (w:=w.drew) i0.size i ⟨g,0,none⟩ i c (css.take i).flatten (by rw [k2];exact hlt) (fun j u hu=>by
    rw [kK hlc,List.getElem?_take] at hu
    split at hu
    · rw [fO]
      exact nW (S:=B1) (w:=w) ⟨hg1,cur,q1,q2,q3,q4⟩ hu
    · cases hu)
  have hkb:k * by_≤(i+k) * by_:=Nat.mul_le_mul_right _ (by omega)
  have hr:=Lib.run_append_grow_zeros (P:=P) w t tn o.type e i0 z kq kn ht htn k1 k4 (some ⟨g,0,none⟩) i c (css.take i).flatten hold k hk (by omega) hg (by omega) (by rw [k3];omega) (growslice_fits hg (by rw [k3];exact hb))
  have hge:=grownCap_ge w (i+k) c e
  have hcm:=grownCap_le_maxLen w (i+k) c e (by unfold maxLen;omega)
  unfold maxLen at hcm
  have hxl:(xs.take i++List.replicate k x0).length=i+k:=by rw [List.length_append,List.length_take,List.length_replicate];omega
  have hcl:(css.take i++List.replicate k z.cells.toList).length=(xs.take i++List.replicate k x0).length:=by
    rw [hxl,List.length_append,List.length_take,List.length_replicate];omega
  have hzk:(Builtin.zeroCells z.cells k).toList=(List.replicate k z.cells.toList).flatten:=by
    have:=mH z.cells k (by omega)
    rw [←this]
    rfl
  have hzl:((List.replicate k z.cells.toList).flatten).length=k * K.sz:=by rw [←hzk,Array.length_toList,size_zeroCells,hz]
  have hall:∀(b:Nat),b<w.heap.size→(w.drew.alloc (.cells ((css.take i).flatten.toArray++Builtin.zeroCells z.cells k++Builtin.zeroCells z.cells (grownCap w (i+k) c e - (i+k))) e)).heap[b]? =w.heap[b]? :=fun b hb=>Below.heap_alloc w.drew _ b hb
  have hsq:∀(w':World) (S':Bs),cB (iW K (xs.take i++List.replicate k x0) (css.take i++List.replicate k z.cells.toList)) w' S':=fun w' S'=>by
    refine aAy (S1:=fun _=>False) (S2:=fun _=>False) (by rw [List.length_take,List.length_take,h4]) ?_ (aAs h0 k w' _) (fun _ h=>h.elim) (fun _ h=>h.elim) (fun _ h=>h.elim)
    refine rA hK (w:=w) (F:=fun _=>True) (by rw [List.length_take,List.length_take,h4]) (fun j y d hy hd=> ?_) w' _
    rw [List.getElem?_take] at hy hd
    split at hy
    · rename_i hj
      rw [if_pos hj] at hd
      exact K.ro_up (K.own_ro (oB hseq hy hd)) (fun _ _=>trivial)
    · cases hy
  refine⟨_,_,_,?_,rfl,hkk _ [aG (bA e by_ K) (xs.take i++List.replicate k x0) [.slice (some ⟨w.heap.size,0,none⟩) (i+k) (grownCap w (i+k) c e)],aG (bA e by_ K) xs [.slice (some ⟨g,0,none⟩) n c]] (fun b=>b=w.heap.size∨(S1 b∧b<w.heap.size)) ⟨fun b=>b=w.heap.size,fun b=>S1 b∧b<w.heap.size,?_,cB.one (c:=aG (bA e by_ K) xs _) (Asn.loc _ (Asn.lt _ hold0) (fun b hb=>hall b hb.2)),fun b hb=> .inl hb,fun b hb=> .inr hb,fun b hb hb2=>by have:=hb2.2;omega⟩ (fun b hb=>hb.elim (fun h=> .inr (by omega)) (fun h=> .inl h.1)) ⟨rfl,rfl,rfl,by simp,fun b hb _=>hall b hb⟩⟩
  · simp only [execOp, ho, hs a ha, hq a ha]
    simp [resolve,hs a ha,hq a ha,invoke,builtin,hr]
  · refine .inr ⟨w.heap.size, _, css.take i ++ List.replicate k z.cells.toList, by rw [hxl], by rw [hxl]; exact hge, by omega, by rw [hxl]; exact hb, hcl, fun b => b = w.heap.size, fun _ => False, ⟨rfl, _, heap_alloc_new w.drew _, ?_, ?_, ?_⟩, hsq _ _, fun b hb => hb, fun _ h => h.elim, fun _ _ h => h⟩
    · simp only [Array.size_append, List.size_toArray, size_zeroCells, hz, hlt, ← Nat.add_mul]
      congr 1;omega
    · rw [List.flatten_append, List.length_append, hlt, hzl]
      simp only [Array.size_append,List.size_toArray,size_zeroCells,hz,hlt];omega
    · rw [List.flatten_append, ← hzk]
      simp only [Array.toList_append]
      exact List.take_left
theorem aMg {Wd:World→Prop}{x:Operand}{t e:TypeId}{n c:Nat}{A:Option Addr} (ho:o.op= .call {callee:= .builtin .cap,args:= #[x],argTypes:= #[t]}) (ht:P.underlying t=some (.slice e)) (hx:Val T x (.slice A n c)):eT P o T Wd (.int .i64 (c:Int)):=fun a w ha _=>by
  simp only [execOp,ho]
  simp [resolve,hx a ha,invoke,builtin,Builtin.cap_,run_underlying ht,goInt]
theorem aLp {x:Operand}{A:Option Addr}{n m c:Nat} (h:Val T x (.slice A n c)) (e:n=m):Val T x (.slice A m c):=e ▸ h
end
end Go.Proofs.YtmejbfmhaoilmaaGreat
/- What is proved: what is found below a place within ten steps is what can be reached, in plain Lean. No condition. -/
namespace Go.Proofs.YtmejbfmhaoilmaaGreat
open Go Go.RowKit
set_option linter.unusedVariables false
set_option linter.unusedSimpArgs false
def wi (xs : List aF) (a : Int) : Nat → Int → Bool
  | 0,b=>decide (b=a)
  | n+1,b=>decide (b=a) || (aB xs b).any (fun e=>wi xs a n e.ino)
theorem aEq {xs:List aF}{a b:Int}{n:Nat} (h:b=a):wi xs a n b=true:=by
  cases n <;> simp [wi,h]
theorem aK4 {xs:List aF}{a b:Int}{n k:Nat}{e:aQ} (hn:0<n) (he:(aB xs b)[k]? =some e) (h:wi xs a (n - 1) e.ino=true):wi xs a n b=true:=by
  obtain⟨m,rfl⟩:∃m,n=m+1:=⟨n - 1,by omega⟩
  simp only [wi,Bool.or_eq_true]
  exact .inr (List.any_eq_true.2 ⟨e,List.mem_of_getElem? he,by simpa using h⟩)
theorem zV {xs:List aF}{a b:Int}{n:Nat} (h:¬b=a) (hk:n=0∨∀(j:Nat) (e:aQ),(aB xs b)[j]? =some e→wi xs a (n - 1) e.ino=false):wi xs a n b=false:=by
  cases n with
  | zero=>simp [wi,h]
  | succ m=>
    have hk':=hk.resolve_left (by omega)
    simp only [wi,Bool.or_eq_false_iff,decide_eq_false h,true_and]
    rw [List.any_eq_false]
    intro e he
    obtain⟨j,hj⟩:=List.mem_iff_getElem?.1 he
    have:=hk' j e hj
    simpa using this
end Go.Proofs.YtmejbfmhaoilmaaGreat
/- What is proved: small laws for what draws numbers from bytes. No condition. -/
namespace Go.Proofs.YtmejbfmhaoilmaaGreat
open Go Go.RowKit
theorem jR {x n:Int} (hx:0≤x) (hn:1≤n):0≤Int.tmod x n∧Int.tmod x n<n:=
  ⟨Int.tmod_nonneg _ hx,Int.tmod_lt_of_pos _ (by omega)⟩
theorem aG2 {x n:Int} (hx:0≤x) (hn:1≤n):0≤x / n∧x / n≤x:=
  ⟨Int.ediv_nonneg hx (by omega),Int.ediv_le_self _ hx⟩
theorem nG {α:Type}{K:Kd α}{e by_:Nat}{w:World}{F:Bs}{xs:List α}{A:Option Addr}{c:Nat} (h:(bA e by_ K).ro w F xs [.slice A xs.length c]):xs.length≤c∧c≤9223372036854775807∧xs.length * by_≤140737488355328:=by
  obtain⟨A',c',hv,h1,h2,h3,_⟩:=aH h
  cases hv
  exact⟨h1,h2,h3⟩
end Go.Proofs.YtmejbfmhaoilmaaGreat
/- What is proved: the names that are drawn have no fault. No condition. -/
namespace Go.Proofs.YtmejbfmhaoilmaaGreat
open Go
theorem aFg:∀s:ByteArray,s∈([⟨#[97]⟩,⟨#[98]⟩,⟨#[99]⟩,⟨#[100]⟩,⟨#[97,98]⟩,⟨#[104,97,108,108]⟩]:List ByteArray)→cD s=0:=by decide
theorem aGn:∀s:ByteArray,s∈([⟨#[97]⟩,⟨#[97,98,99,100]⟩,⟨#[97,98,99,100,101]⟩,⟨#[]⟩,⟨#[65]⟩,⟨#[97,47]⟩,⟨#[122,122]⟩,⟨#[97,98,99,100,69]⟩]:List ByteArray)→s.size≤100:=by decide
theorem sG:∀s:ByteArray,s∈([⟨#[97]⟩,⟨#[97,98]⟩,⟨#[98]⟩,⟨#[99]⟩,⟨#[104,97,108,108]⟩]:List ByteArray)→s.size≤4:=by decide
theorem zH:∀s:ByteArray,s∈([⟨#[97]⟩,⟨#[97,98]⟩,⟨#[98]⟩,⟨#[99]⟩,⟨#[104,97,108,108]⟩]:List ByteArray)→s.size≤140737488351232:=by decide
theorem gW:∀s:ByteArray,s∈([⟨#[47,97]⟩,⟨#[47,98]⟩,⟨#[47,99]⟩]:List ByteArray)→s.size≤140737488351232:=by decide
end Go.Proofs.YtmejbfmhaoilmaaGreat
/- What is proved: three that act are ready in a region that draws: any may be the next. No condition. -/
namespace Go.Proofs.YtmejbfmhaoilmaaGreat
open Go Go.RowKit
section
variable {N:Nat}{w0:World}{S0:Bs}{F:Act→World→Prop}{T:eZ}{l lk:List Asn}{P:Program}{Q:Exit→Act→World→Prop}{K:Act→World→Prop}{ops:Array Oper}{last:Nat}
end
end Go.Proofs.YtmejbfmhaoilmaaGreat
/- What is proved: an element of a row of one's own, a struct, is read whole. No condition. -/
namespace Go.Proofs.YtmejbfmhaoilmaaGreat
open Go Go.RowKit
set_option linter.unusedVariables false
section
variable {w0:World}{S0:Bs}{l l':List Asn}
end
end Go.Proofs.YtmejbfmhaoilmaaGreat
/- What is proved: an inode read back from its words, in plain Lean. No condition. -/
namespace Go.Proofs.YtmejbfmhaoilmaaGreat
open Go Go.RowKit
set_option linter.unusedVariables false
set_option linter.unusedSimpArgs false
end Go.Proofs.YtmejbfmhaoilmaaGreat
/- What is proved: how long what is packed gets, of inodes that may be faulty; packed and unpacked again. Plain Lean. No condition. -/
namespace Go.Proofs.YtmejbfmhaoilmaaGreat
open Go Go.RowKit
set_option linter.unusedVariables false
set_option linter.unusedSimpArgs false
end Go.Proofs.YtmejbfmhaoilmaaGreat
/- What is proved: small laws for drawn inodes. No condition. -/
namespace Go.Proofs.YtmejbfmhaoilmaaGreat
open Go
theorem oV {xs:List aF}{x:aF} (h:bJ xs=0) (hx:bV x=0) (hl:(xs.length:Int)≤9):bJ (xs++ [x])=0:=by
  refine iI (by simp only [List.length_append,List.length_cons,List.length_nil];omega) fun j y _ hy=> ?_
  have hm:=List.mem_of_getElem? hy
  rcases List.mem_append.1 hm with hm | hm
  · exact dT h y hm
  · obtain rfl:=List.mem_singleton.1 hm;exact hx
theorem aK7 {bs:List Int}{j:Nat}{v:Int} (h:∀b,b∈bs→0≤b∧b≤19) (hv:0≤v∧v≤19):∀b,b∈bs.set j v→0≤b∧b≤19:=fun b hb=>by
  rcases List.mem_or_eq_of_mem_set hb with hb | rfl
  · exact h b hb
  · exact hv
end Go.Proofs.YtmejbfmhaoilmaaGreat
/- What is proved: what a function owns, from some point on only read: a new base of its frame. No condition. -/
namespace Go.Proofs.YtmejbfmhaoilmaaGreat
open Go Go.RowKit
set_option linter.unusedVariables false
section
variable {N:Nat}{w0:World}{S0:Bs}{F:Act→World→Prop}{T:eZ}{l:List Asn}{P:Program}
theorem Y.a4 {α : Type} {K : Kd α} {x : α} {cs : List Value} {l' : List Asn} (h : fP l (aG K x cs) l')
    (k:∀(w1:World) (S1:Bs),(∀{β:Type}{J:Kd β}{y:β}{ds:List Value},J.ro w0 (FF w0 S0) y ds→J.ro w1 (FF w1 S1) y ds)→K.ro w1 (FF w1 S1) x cs→(∀l w,WS w1 S1 l w→WS w0 S0 l w)→Y N w1 S1 F T l'):Y N w0 S0 F T l:=by
  intro a w h1 h2 h3 h4
  obtain⟨S,hs,hb,hf⟩:=h4.take h
  obtain⟨A,B,hc,hl,iA,iB,d⟩:=hs
  have hc':=K.own_lt (show K.own w A x cs from hc)
  have hsub:∀b,FF w0 S0 b→FF w B b∧w.heap[b]? =w0.heap[b]? :=fun b hF=>
    ⟨⟨Nat.lt_of_lt_of_le hF.1 hf.size,fun hB=>(hb b (iB b hB)).elim hF.2 (fun h=>absurd hF.1 (by omega))⟩,hf.block b hF.1 hF.2⟩
  refine k w B (fun {β} {J} {y} {ds} hr => J.ro_up (J.ro_loc hr fun b hF => (hsub b hF).2) fun b hF => (hsub b hF).1)
    (K.ro_up (K.own_ro hc') fun b hA=>⟨hA.2,fun hB=>d b hA.1 hB⟩) (fun m w' hw=> ?_) a w h1 h2 h3 ⟨B,hl,fun b hB=> .inl hB,Fr.refl _ _⟩
  obtain⟨S2,s1,s2,s3⟩:=hw
  exact⟨S2,s1,fun b hS=>(s2 b hS).elim (fun hB=>hb b (iB b hB)) (fun hle=> .inr (Nat.le_trans hf.size hle)),hf.trans s3 fun b hB=>hb b (iB b hB)⟩
theorem Y.az {w1:World}{S1:Bs}{fn:Func}{R:Value→List Asn→Prop} (hup:∀l w,WS w1 S1 l w→WS w0 S0 l w) (k:Y N w1 S1 (bodyPost P fn (aJ w1 S1 R) .ret) T l):Y N w1 S1 (bodyPost P fn (aJ w0 S0 R) .ret) T l:=fun a w h1 h2 h3 h4=>by
  obtain⟨hd,v,hr,r,m,he,hR,hw⟩:=k a w h1 h2 h3 h4
  exact⟨hd,v,hr,r,m,he,hR,hup _ _ hw⟩
end
end Go.Proofs.YtmejbfmhaoilmaaGreat
/- What is proved: values that are one's own and only read (a kind of their own): made, set aside as a new base of the frame, given back. No condition. -/
namespace Go.Proofs.YtmejbfmhaoilmaaGreat
open Go Go.RowKit
set_option linter.unusedVariables false
@[reducible] def iT {α : Type} (K : Kd α) : Kd α where
  sz:=K.sz
  pos:=K.pos
  ro:=K.ro
  own w S x cs:=K.ro w (fun b=>S b∧b<w.heap.size) x cs
  ro_len h:=K.ro_len h
  ro_one h:=K.ro_one h
  ro_up h:=K.ro_up h
  ro_loc h:=K.ro_loc h
  own_ro h:=K.ro_up h fun _ hb=>hb.1
  own_up h hs:=K.ro_up h fun b hb=>⟨hs b hb.1,hb.2⟩
  own_loc:=by
    intro w w' S x cs h hs
    refine K.ro_up (K.ro_loc h fun b hb=>hs b hb.1) fun b hb=>⟨hb.1,?_⟩
    have h1:=hs b hb.1
    rw [Array.getElem?_eq_getElem hb.2] at h1
    exact(Array.getElem?_eq_some_iff.1 h1).1
  own_lt h:=K.ro_up h fun _ hb=>⟨hb,hb.2⟩
theorem jT {α:Type}{K:Kd α}{x:α}{cs:List Value} (w:World) (S:Bs) (h:cB [aG K x cs] w S):(aG (iT K) x cs).p w S:=
  K.own_ro (K.own_lt (show K.own w S x cs from h.head (c:=aG K x cs)))
theorem aAr {α : Type} {K : Kd α} {e by_ : Nat} {xs : List α} {A A' : Option Addr} {c a b : Nat} (hA : A' = (if c = a then A else Option.map (fun z => Addr.add z (a * K.sz)) A)) (h1 : a ≤ b) (h2 : b ≤ xs.length) (w : World) (S : Bs)
    (h:cB [aG (bA e by_ K) xs [.slice A xs.length c]] w S):(aG (iT (bA e by_ K)) (fY xs a b) [.slice A' (fY xs a b).length (c - a)]).p w S:=
  nK (e:=e) (by_:=by_) (a:=a) (b:=b) hA (jT w S h) h1 h2
section
variable {N:Nat}{w0:World}{S0:Bs}{F:Act→World→Prop}{T:eZ}{l:List Asn}{P:Program}
theorem WS.v {α:Type}{K:Kd α}{e by_:Nat}{xs:List α}{v:Value}{l':List Asn} (ht:fP l (aG (iT (bA e by_ K)) xs [v]) l'):∀w,WS w0 S0 l w→∃A c,v= .slice A xs.length c∧xs.length≤c∧c≤9223372036854775807∧xs.length * by_≤140737488355328:=fun w hw=>by
  obtain⟨S,hs,_,_⟩:=hw.take ht
  have h:(bA e by_ K).ro w (fun b=>S b∧b<w.heap.size) xs [v]:=hs.head (c:=aG (iT (bA e by_ K)) xs [v])
  obtain⟨A,c,h1,h2,h3,h4,_⟩:=aH h
  exact⟨A,c,h1,h2,h3,h4⟩
theorem Y.a1 {α : Type} {K : Kd α} {x : α} {cs : List Value} {l' : List Asn} (h : fP l (aG (iT K) x cs) l')
    (k:∀(w1:World) (S1:Bs),(∀{β:Type}{J:Kd β}{y:β}{ds:List Value},J.ro w0 (FF w0 S0) y ds→J.ro w1 (FF w1 S1) y ds)→K.ro w1 (FF w1 S1) x cs→(∀l w,WS w1 S1 l w→WS w0 S0 l w)→Y N w1 S1 F T l'):Y N w0 S0 F T l:=Y.a4 h k
theorem Y.a3 {α : Type} {K : Kd α} {x : α} {cs : List Value} {l' : List Asn} (h : fP l (aG (iT K) x cs) l')
    (k:∀(w1:World) (S1:Bs),(∀{β:Type}{J:Kd β}{y:β}{ds:List Value},J.ro w0 (FF w0 S0) y ds→J.ro w1 (FF w1 S1) y ds)→K.ro w1 (FF w1 S1) x cs→(∀l w,WS w1 S1 l w→WS w0 S0 (aG (iT K) x cs :: l) w)→Y N w1 S1 F T l'):Y N w0 S0 F T l:=by
  intro a w h1 h2 h3 h4
  obtain⟨S,hs,hb,hf⟩:=h4.take h
  obtain⟨A,B,hc,hl,iA,iB,d⟩:=hs
  have hc':K.ro w (fun b=>A b∧b<w.heap.size) x cs:=hc
  have hsub:∀b,FF w0 S0 b→FF w B b∧w.heap[b]? =w0.heap[b]? :=fun b hF=>
    ⟨⟨Nat.lt_of_lt_of_le hF.1 hf.size,fun hB=>(hb b (iB b hB)).elim hF.2 (fun h=>absurd hF.1 (by omega))⟩,hf.block b hF.1 hF.2⟩
  refine k w B (fun {β} {J} {y} {ds} hr => J.ro_up (J.ro_loc hr fun b hF => (hsub b hF).2) fun b hF => (hsub b hF).1)
    (K.ro_up hc' fun b hA=>⟨hA.2,fun hB=>d b hA.1 hB⟩) (fun m w' hw=> ?_) a w h1 h2 h3 ⟨B,hl,fun b hB=> .inl hB,Fr.refl _ _⟩
  obtain⟨S2,s1,s2,s3⟩:=hw
  refine⟨fun b=>(A b∧b<w.heap.size)∨S2 b,⟨fun b=>A b∧b<w.heap.size,S2,?_,s1,fun b h=> .inl h,fun b h=> .inr h,fun b hA hS=> ?_⟩,fun b hS=> ?_,hf.trans s3 fun b hB=>hb b (iB b hB)⟩
  · show K.ro w' (fun b => (A b ∧ b < w.heap.size) ∧ b < w'.heap.size) x cs
    exact K.ro_up (K.ro_loc hc' fun b hb=>s3.block b hb.2 (fun hB=>d b hb.1 hB)) fun b hb=>⟨hb,Nat.lt_of_lt_of_le hb.2 s3.size⟩
  · exact(s2 b hS).elim (fun hB=>d b hA.1 hB) (fun hle=>by have:=hA.2;omega)
  · exact hS.elim (fun hA=>hb b (iA b hA.1)) (fun hS=>(s2 b hS).elim (fun hB=>hb b (iB b hB)) (fun hle=> .inr (Nat.le_trans hf.size hle)))
theorem Y.ax {w1:World}{S1:Bs}{fn:Func}{R:Value→List Asn→Prop} (m:List Asn) (hup:∀l w,WS w1 S1 l w→WS w0 S0 (m++l) w) (k:Y N w1 S1 (bodyPost P fn (aJ w1 S1 (fun r l=>R r (m++l))) .ret) T l):Y N w1 S1 (bodyPost P fn (aJ w0 S0 R) .ret) T l:=fun a w h1 h2 h3 h4=>by
  obtain⟨hd,v,hr,r,q,he,hR,hw⟩:=k a w h1 h2 h3 h4
  exact⟨hd,v,hr,r,m++q,he,hR,hup _ _ hw⟩
end
end Go.Proofs.YtmejbfmhaoilmaaGreat
/- What is proved: results of which one lies in memory. No condition. -/
namespace Go.Proofs.YtmejbfmhaoilmaaGreat
open Go Go.RowKit
set_option linter.unusedVariables false
set_option linter.unusedSimpArgs false
section
variable {w0:World}{S0:Bs}{T:eZ}{l:List Asn}{P:Program}
theorem mW {fn : Func} {s ty u0 u1 : Nat} {ad : Addr} {cs : List Value} {v0 v1 : Value} (hr : fn.results = #[.cell s ty, .tmp u0, .tmp u1]) (h : Get T (s, .pointer (some ad))) (hg : eP P ty true) (hi : (P.info? ty).map (·.size) = some cs.length)
    (hc:∀w,WS w0 S0 l w→∀(i:Nat) (u:Value),cs[i]? =some u→w.cell? (ad.add i)=some u) (k0:Get T (u0,v0)) (k1:Get T (u1,v1)):∀(a:Act) (w:World),Holds T a→WS w0 S0 l w→(results fn a.tmps).run P w= .ok (.tuple #[.agg cs.toArray,v0,v1]) w:=fun a w ha hw=>by
  obtain⟨d,ht,hd⟩:=hg.ex
  have hag:=pP ht w
  rw [hd] at hag
  obtain⟨i0,h1,h2⟩:=Option.map_eq_some_iff.1 hi
  have hl:=run_loadCells_list (P:=P) w ad cs (hc w hw)
  have e1:=kC h ha
  have f0:=kC k0 ha
  have f1:=kC k1 ha
  simp only [Array.getD_eq_getD_getElem?] at e1 f0 f1
  simp [results,hr,e1,f0,f1,asAddr,loadVar,Sem.run_bind,hag,sizeOf,typeInfo,h1,h2,hl]
theorem aHe {fn : Func} {s ty u0 u1 u2 : Nat} {ad : Addr} {cs : List Value} {v0 v1 v2 : Value} (hr : fn.results = #[.cell s ty, .tmp u0, .tmp u1, .tmp u2]) (h : Get T (s, .pointer (some ad))) (hg : eP P ty true) (hi : (P.info? ty).map (·.size) = some cs.length)
    (hc:∀w,WS w0 S0 l w→∀(i:Nat) (u:Value),cs[i]? =some u→w.cell? (ad.add i)=some u) (k0:Get T (u0,v0)) (k1:Get T (u1,v1)) (k2:Get T (u2,v2)):∀(a:Act) (w:World),Holds T a→WS w0 S0 l w→(results fn a.tmps).run P w= .ok (.tuple #[.agg cs.toArray,v0,v1,v2]) w:=fun a w ha hw=>by
  obtain⟨d,ht,hd⟩:=hg.ex
  have hag:=pP ht w
  rw [hd] at hag
  obtain⟨i0,h1,h2⟩:=Option.map_eq_some_iff.1 hi
  have hl:=run_loadCells_list (P:=P) w ad cs (hc w hw)
  have e1:=kC h ha
  have f0:=kC k0 ha
  have f1:=kC k1 ha
  have f2:=kC k2 ha
  simp only [Array.getD_eq_getD_getElem?] at e1 f0 f1 f2
  simp [results,hr,e1,f0,f1,f2,asAddr,loadVar,Sem.run_bind,hag,sizeOf,typeInfo,h1,h2,hl]
end
end Go.Proofs.YtmejbfmhaoilmaaGreat
/- What is proved: what can be reached is there; what is read in two parts is what is read in one; plain Lean. No condition. -/
namespace Go.Proofs.YtmejbfmhaoilmaaGreat
open Go Go.RowKit
set_option linter.unusedVariables false
set_option linter.unusedSimpArgs false
end Go.Proofs.YtmejbfmhaoilmaaGreat
/- What is proved: a file whose bytes are set anew leaves a file system whole, and no other file turns; plain Lean. No condition. -/
namespace Go.Proofs.YtmejbfmhaoilmaaGreat
open Go Go.RowKit
set_option linter.unusedVariables false
set_option linter.unusedSimpArgs false
structure aMc (xs : List aF) : Prop where
  one:∀(i:Nat) x,xs[i]? =some x→x.blocks.Nodup
  two:∀(i k:Nat) x y b,xs[i]? =some x→xs[k]? =some y→b∈x.blocks→b∈y.blocks→i=k
theorem zO {xs:List aF}:(gD xs).Nodup↔aMc xs:=by
  unfold gD List.Nodup
  rw [List.pairwise_flatten,List.pairwise_iff_getElem]
  constructor
  · rintro ⟨h1, h2⟩
    have h3:∀(i k:Nat) x y b,i<k→xs[i]? =some x→xs[k]? =some y→b∈x.blocks→b∈y.blocks→False:=fun i k x y b hik hx hy hb hb2=>by
      obtain⟨li,ei⟩:=List.getElem?_eq_some_iff.1 hx
      obtain⟨lk,ek⟩:=List.getElem?_eq_some_iff.1 hy
      have:=h2 i k (by rw [List.length_map];exact li) (by rw [List.length_map];exact lk) hik b (by rw [List.getElem_map,ei];exact hb) b (by rw [List.getElem_map,ek];exact hb2)
      exact this rfl
    refine⟨fun i x hx=>h1 _ (List.mem_map.2 ⟨x,List.mem_of_getElem? hx,rfl⟩),fun i k x y b hx hy hb hb2=> ?_⟩
    rcases Nat.lt_trichotomy i k with h | h | h
    · exact(h3 i k x y b h hx hy hb hb2).elim
    · exact h
    · exact(h3 k i y x b h hy hx hb2 hb).elim
  · intro h
    refine⟨fun l hl=> ?_,fun i k hi hk hik b hb c hc e=> ?_⟩
    · obtain ⟨x, hx, rfl⟩ := List.mem_map.1 hl
      obtain⟨i,hi⟩:=List.mem_iff_getElem?.1 hx
      exact h.one i x hi
    · subst e
      rw [List.length_map] at hi hk
      rw [List.getElem_map] at hb hc
      have:=h.two i k _ _ b (List.getElem?_eq_getElem hi) (List.getElem?_eq_getElem hk) hb hc
      omega
theorem mX {α:Type}{l:List α}{j k:Nat}{v:α} (hj:j<l.length):(l.set j v)[k]? =if j=k then some v else l[k]? :=by
  by_cases h:j=k
  · subst h;simp [hj]
  · simp [h]
theorem aDk {x:aF} (h:bV x=0) (hk:x.kind=1):((1≤x.links∧x.links≤60)∧(0≤x.size∧x.size≤32))∧x.ents.length=0:=by
  unfold bV at h
  rw [if_pos (by omega)] at h
  split at h
  · exact absurd h (by decide)
  · rename_i h1
    unfold fW at h
    split at h
    · rename_i h2;exact⟨h2,by omega⟩
    · exact absurd h (by decide)
end Go.Proofs.YtmejbfmhaoilmaaGreat
/- What is proved: a name that is put into a directory is found, all others as before; taken out again, all is as it was; plain Lean. No condition. -/
namespace Go.Proofs.YtmejbfmhaoilmaaGreat
open Go Go.RowKit
set_option linter.unusedVariables false
set_option linter.unusedSimpArgs false
def Srt (es:List aQ):Prop:=∀(i j:Nat) (e g:aQ),i<j→es[i]? =some e→es[j]? =some g→sLt e.name g.name=true
theorem yJ {es:List aQ} (h:Srt es) {k:Nat}{e:aQ} (he:es[k]? =some e):eI es e.name=e.ino:=
  vA he rfl fun j x hj hx hn=>by
    have:=h j k x e hj hx he
    rw [hn,xU] at this
    exact absurd this (by decide)
theorem aIi {es:List aQ}{s:ByteArray} (h:eI es s<0) (hi:∀(k:Nat) e,es[k]? =some e→0≤e.ino):∀e,e∈es→¬e.name=s:=fun e he hn=>by
  unfold eI at h
  cases hf:es.find? (cA s) with
  | none=>
    have:=List.find?_eq_none.1 hf e he
    simp [hn] at this
  | some x=>
    rw [hf] at h
    obtain⟨k,hk⟩:=List.mem_iff_getElem?.1 (List.mem_of_find?_eq_some hf)
    have:=hi k x hk
    dsimp only at h
    omega
theorem uR {es:List aQ}{n:aQ}{k:Nat} (hk:qK es n.name=k) (hl:k≤es.length) (i:Nat):(dL es n)[i]? =if i<k then es[i]? else if i=k then some n else es[i - 1]? :=by
  have ht:(es.take k).length=k:=by rw [List.length_take];omega
  unfold dL
  rw [hk,List.append_assoc]
  by_cases h1:i<k
  · rw [if_pos h1,List.getElem?_append_left (by omega),List.getElem?_take,if_pos h1]
  · rw [if_neg h1, List.getElem?_append_right (by omega), ht]
    by_cases h2:i=k
    · subst h2;rw [if_pos rfl,Nat.sub_self];rfl
    · rw [if_neg h2, List.getElem?_append_right (by simp; omega), List.getElem?_drop]
      congr 1
      simp
      omega
theorem rP (s : ByteArray) : ∀ es : List aQ, qK es s ≤ es.length ∧ (∀ (j : Nat) e, j < qK es s → es[j]? = some e → sLt e.name s = true) ∧ (∀ e, es[qK es s]? = some e → sLt e.name s = false)
  | []=>⟨Nat.le_refl _,fun j e h=>absurd h (Nat.not_lt_zero _),fun e h=>by simp at h⟩
  | x :: es=>by
    obtain⟨h1,h2,h3⟩:=rP s es
    unfold qK at h1 h2 h3 ⊢
    by_cases hx:sLt x.name s=true
    · rw [List.takeWhile_cons_of_pos (p := fun x : aQ => sLt x.name s) hx, List.length_cons]
      refine⟨by simp only [List.length_cons];omega,fun j e hj he=> ?_,fun e he=>h3 e (by simpa using he)⟩
      cases j with
      | zero=>simp at he;subst he;exact hx
      | succ j=>exact h2 j e (by omega) (by simpa using he)
    · rw [List.takeWhile_cons_of_neg (p := fun x : aQ => sLt x.name s) hx]
      exact⟨Nat.zero_le _,fun j e hj=>absurd hj (Nat.not_lt_zero _),fun e he=>by simp at he;subst he;simpa using hx⟩
theorem aCi {es:List aQ}{n:aQ} (h:Srt es) (hn:∀e,e∈es→¬e.name=n.name):Srt (dL es n):=by
  obtain⟨h1,h2,h3⟩:=rP n.name es
  have hup:∀(j:Nat) e,qK es n.name≤j→es[j]? =some e→sLt n.name e.name=true:=fun j e hj he=>by
    have hlt:=(List.getElem?_eq_some_iff.1 he).1
    obtain⟨z,hz⟩:∃z,es[qK es n.name]? =some z:=⟨_,List.getElem?_eq_getElem (by omega)⟩
    have h4:=h3 z hz
    have h5:=qJ z.name n.name
    rw [h4,decide_eq_false (hn z (List.mem_of_getElem? hz))] at h5
    have h6:sLt n.name z.name=true:=by revert h5;cases sLt n.name z.name <;> decide
    by_cases hj2:qK es n.name=j
    · subst hj2;rw [hz] at he;obtain rfl:=Option.some.inj he;exact h6
    · exact zX h6 (h _ j z e (by omega) hz he)
  intro i j e g hij he hg
  rw [uR rfl h1] at he hg
  split at he
  · rename_i hi
    split at hg
    · exact h i j e g hij he hg
    · split at hg
      · obtain rfl:=Option.some.inj hg;exact h2 i e hi he
      · exact h i (j - 1) e g (by omega) he hg
  · rename_i hi
    rw [if_neg (by omega)] at hg
    split at he
    · obtain rfl := Option.some.inj he
      rw [if_neg (by omega)] at hg
      exact hup (j - 1) g (by omega) hg
    · rw [if_neg (by omega)] at hg
      exact h (i - 1) (j - 1) e g (by omega) he hg
theorem aGw {es:List aQ}{n:aQ} (a:Int):fQ (lJ a) (dL es n)=fQ (lJ a) es+lJ a n:=by
  have h:=congrArg (fQ (lJ a)) (List.take_append_drop (qK es n.name) es)
  unfold dL
  rw [tW] at h
  rw [tW,tW]
  have:fQ (lJ a) [n]=lJ a n:=by simp [fQ]
  omega
theorem aGc {es:List aQ}{n:aQ} (hn:∀e,e∈es→¬e.name=n.name):(dL es n).filter (hJ (cA n.name))=es:=by
  have hk:∀l:List aQ,(∀e,e∈l→e∈es)→l.filter (hJ (cA n.name))=l:=fun l hl=>List.filter_eq_self.2 fun e he=>by
    simp [hJ,cA,hn e (hl e he)]
  unfold dL
  rw [List.filter_append,List.filter_append,hk _ (fun e he=>List.mem_of_mem_take he),hk _ (fun e he=>List.mem_of_mem_drop he)]
  simp [hJ,cA]
theorem aIu {x:aF}{n:Int} (h:bV x=0) (hk:x.kind=1) (hn:1≤n∧n≤60):bV ⟨x.kind,n,x.size,x.blocks,x.ents⟩=0:=by
  have ho:=aDk h hk
  rw [cL hk ho.2] at h
  rw [cL (x:=⟨x.kind,n,x.size,x.blocks,x.ents⟩) hk ho.2]
  unfold fW at h ⊢
  rw [if_pos ho.1] at h
  rw [if_pos ⟨hn,ho.1.2⟩]
  exact h
theorem aHh {x:aF} (h:bV x=0) (hk:x.kind=2):(x.links=0∧x.size=0∧x.blocks.length=0)∧iP x=0:=by
  unfold bV at h
  rw [if_pos (by omega)] at h
  split at h
  · exact absurd h (by decide)
  · rename_i h1
    rw [if_neg (show¬x.kind=1 by omega)] at h
    exact⟨Classical.byContradiction fun h2=>h1 (.inl ⟨by omega,h2⟩),h⟩
theorem aIp {x:aF}{n:aQ} (h:bV x=0) (hk:x.kind=2) (h6:x.ents.length<6) (hn:cD n.name=0) (hi:0≤n.ino∧n.ino≤9) (ho:∀e,e∈x.ents→¬e.name=n.name):bV ⟨x.kind,x.links,x.size,x.blocks,dL x.ents n⟩=0:=by
  obtain⟨h0,hd⟩:=aHh h hk
  have hl:(dL x.ents n).length=x.ents.length+1:=tY
  have hs:=aCi (qZ hd) ho
  have hsp:=rP n.name x.ents
  rw [cJ (x:=⟨x.kind,x.links,x.size,x.blocks,dL x.ents n⟩) hk h0]
  refine gZ (by show¬(6:Int)<((dL x.ents n).length:Int);omega) fun j hj=> ?_
  change j<(dL x.ents n).length at hj
  show nY (dL x.ents n) j=0
  have he:=List.getElem?_eq_getElem hj
  have hok:cD (dL x.ents n)[j].name=0∧0≤(dL x.ents n)[j].ino∧(dL x.ents n)[j].ino≤9:=by
    rcases uF (List.getElem_mem hj) with e | e
    · rw [e];exact⟨hn,hi⟩
    · obtain ⟨q, hq⟩ := List.mem_iff_getElem?.1 e
      exact nN h q _ hq
  unfold nY
  rw [he]
  dsimp only
  by_cases hz:j=0
  · exact qL hok.1 hok.2 hz
  · have hp := List.getElem?_eq_getElem (l := dL x.ents n) (i := j - 1) (by omega)
    exact aAp hok.1 hok.2 (by omega) hp (hs (j - 1) j _ _ (by omega) hp he)
theorem xW {xs:List aF}{a n k:Int}:aR (eO xs a n) k=aR xs k:=by
  unfold eO
  cases h:xs[a.toNat]? with
  | none=>rfl
  | some y=>
    unfold aR
    dsimp only
    rw [mX (List.getElem?_eq_some_iff.1 h).1]
    by_cases e:a.toNat=k.toNat
    · rw [if_pos e,←e,h]
    · rw [if_neg e]
theorem aC1 {xs:List aF}{a b n:Int}{E:List aQ} (ha:a.toNat<xs.length) (hb:b.toNat<xs.length) (hne:a.toNat≠b.toNat):eD (eO (eD xs a E) b n) a (aB xs a)=eO xs b n:=by
  obtain⟨x,hx⟩:∃x,xs[a.toNat]? =some x:=⟨_,List.getElem?_eq_getElem ha⟩
  obtain⟨y,hy⟩:∃y,xs[b.toNat]? =some y:=⟨_,List.getElem?_eq_getElem hb⟩
  have h1:eD xs a E=xs.set a.toNat ⟨x.kind,x.links,x.size,x.blocks,E⟩:=by unfold eD;rw [hx]
  have h2:eO (eD xs a E) b n=(xs.set a.toNat ⟨x.kind,x.links,x.size,x.blocks,E⟩).set b.toNat ⟨y.kind,n,y.size,y.blocks,y.ents⟩:=by
    rw [h1];unfold eO;rw [List.getElem?_set_ne hne,hy]
  have h3:eO xs b n=xs.set b.toNat ⟨y.kind,n,y.size,y.blocks,y.ents⟩:=by unfold eO;rw [hy]
  have h4:aB xs a=x.ents:=by unfold aB;rw [hx]
  rw [h2,h3,h4]
  unfold eD
  rw [List.getElem?_set_ne (Ne.symm hne),mX ha,if_pos rfl]
  dsimp only
  rw [List.set_comm _ _ (Ne.symm hne),List.set_set]
  congr 1
  obtain⟨hl,rfl⟩:=List.getElem?_eq_some_iff.1 hx
  exact List.set_getElem_self hl
theorem aDw {xs:List aF}{a:Int}{E:List aQ}:eD (eD xs a E) a (aB xs a)=xs:=by
  unfold eD aB
  cases hx:xs[a.toNat]? with
  | none=>dsimp only;rw [hx]
  | some x=>
    obtain⟨hl,rfl⟩:=List.getElem?_eq_some_iff.1 hx
    dsimp only
    rw [mX hl,if_pos rfl]
    dsimp only
    rw [List.set_set]
    exact List.set_getElem_self hl
structure aJp (f g : DFs) (a : Int) (s : ByteArray) (b : Int) : Prop where
  dir:fI f a=0
  old:∀(k:Nat) nm,(gT f a).names[k]? =some nm→oE g a nm=oE f a nm
  new:oE g a s=⟨0,b⟩
  more:(gT g a).names.length=(gT f a).names.length+1
  back:jJ g a s=⟨0,f⟩
  emp:oG f a↔((gT f a).names.length:Int)=0
  full:¬oG g a
  links:(lD g.inodes b).val=(lD f.inodes b).val+1
  six:(gT f a).names.length≤6
  lb:0≤(lD f.inodes b).val∧(lD f.inodes b).val≤60
  siz:∀(k:Nat) nm,(gT f a).names[k]? =some nm→nm.size≤4
theorem aFh {f:DFs}{a b:Int}{s:ByteArray} (hc:(dB f a s b).code=0):aJp f (dB f a s b).fs a s b:=by
  by_cases h:eE f a s=0
  · by_cases h2 : mL f a s b = 0
    · rw [lH h h2]
      show aJp f (iL f a s b) a s b
      have hd:=tM h
      have hnf:cD s=0:=by rw [kF hd] at h;exact h
      obtain⟨ht,hp,hk2⟩:=qT hd
      have hI:=iY ht
      unfold bR at hp
      have h2':=h2
      unfold mL at h2'
      split at h2'
      · exact absurd h2' (by decide)
      · split at h2'
        · exact absurd h2' (by decide)
        · split at h2'
          · exact absurd h2' (by decide)
          · rename_i g1 g2 g3
            obtain⟨hpb,hkb⟩:bR f.inodes.length b∧aR f.inodes b≠0:=Classical.byContradiction g2
            unfold bR at hpb
            have h10:=pW hI
            obtain⟨x,hx⟩:∃x,f.inodes[a.toNat]? =some x:=⟨_,List.getElem?_eq_getElem (by omega)⟩
            obtain⟨y,hy⟩:∃y,f.inodes[b.toNat]? =some y:=⟨_,List.getElem?_eq_getElem (by omega)⟩
            have hxe:aB f.inodes a=x.ents:=cI hx (by omega)
            have hxk:x.kind=2:=by rw [←hk2,cH hx (by omega)]
            have hxI:=dT hI x (List.mem_of_getElem? hx)
            have hyI:=dT hI y (List.mem_of_getElem? hy)
            have hyk:aR f.inodes b=y.kind:=cH hy (by omega)
            have hyl:bP f.inodes b=y.links:=dC hy (by omega)
            have hno:∀e,e∈x.ents→¬e.name=s:=aIi (by rw [←hxe];omega) (fun k e he=>(nN hxI k e he).2.1)
            have hsx:Srt x.ents:=qZ (aHh hxI hxk).2
            have hsE:Srt (dL x.ents ⟨s,b⟩):=aCi hsx hno
            have hlE:(dL x.ents ⟨s,b⟩).length=x.ents.length+1:=tY
            have hgd:(iL f a s b).data=f.data:=by
              by_cases hk:aR f.inodes b=1
              · rw [gI h2 hk]
              · rw [gJ h2 hk]
            have hge:∀d,aB (iL f a s b).inodes d=if d.toNat=a.toNat then dL x.ents ⟨s,b⟩else aB f.inodes d:=fun d=>by
              by_cases hk:aR f.inodes b=1
              · rw [gI h2 hk];dsimp only;rw [tK,oI (by omega),hxe]
              · rw [gJ h2 hk];dsimp only;rw [oI (by omega),hxe]
            have hgk:∀d,aR (iL f a s b).inodes d=aR f.inodes d:=fun d=>by
              by_cases hk:aR f.inodes b=1
              · rw [gI h2 hk];dsimp only;rw [xW,lE]
              · rw [gJ h2 hk];dsimp only;rw [lE]
            have hgl:(iL f a s b).inodes.length=f.inodes.length:=by
              by_cases hk:aR f.inodes b=1
              · rw [gI h2 hk];dsimp only;rw [bN,bB]
              · rw [gJ h2 hk];dsimp only;rw [bB]
            have hback:∀(j:Nat) z,(iL f a s b).inodes[j]? =some z→∃w,f.inodes[j]? =some w∧w.blocks=z.blocks∧z.ents=(if j=a.toNat then dL x.ents ⟨s,b⟩else w.ents)∧bV z=0:=fun j z hz=>by
              have hE:∀w,f.inodes[j]? =some w→bV ⟨w.kind,w.links,w.size,w.blocks,if j=a.toNat then dL x.ents ⟨s,b⟩else w.ents⟩=0:=fun w hw=>by
                by_cases hj:j=a.toNat
                · subst hj; rw [hx] at hw; obtain rfl := Option.some.inj hw
                  rw [if_pos rfl]
                  rw [hxe] at g3
                  exact aIp hxI hxk (by omega) hnf ⟨hpb.1,by show b≤9;omega⟩ hno
                · rw [if_neg hj];exact dT hI w (List.mem_of_getElem? hw)
              by_cases hk:aR f.inodes b=1
              · rw [gI h2 hk] at hz
                obtain⟨v,hv,rfl⟩:=vH _ z hz
                obtain⟨w,hw,rfl⟩:=lW _ v hv
                refine⟨w,hw,rfl,by dsimp only;rw [hxe],?_⟩
                have h5:=hE w hw
                dsimp only
                rw [hxe]
                by_cases hj:j=b.toNat
                · rw [if_pos hj]
                  subst hj;rw [hy] at hw;obtain rfl:=Option.some.inj hw
                  rw [hyl]
                  rw [hyl] at g3
                  exact aIu h5 (by rw [←hyk];exact hk) (by have:=(aDk hyI (by rw [←hyk];exact hk)).1.1;omega)
                · rw [if_neg hj];exact h5
              · rw [gJ h2 hk] at hz
                obtain⟨w,hw,rfl⟩:=lW _ z hz
                refine⟨w,hw,rfl,by dsimp only;rw [hxe],?_⟩
                rw [hxe];exact hE w hw
            have hI':bJ (iL f a s b).inodes=0:=iI (by rw [hgl];omega) fun j z _ hz=>by
              obtain⟨w, -, -, -,h9⟩:=hback j z hz
              exact h9
            obtain⟨hrt,hbd,hus,hbe⟩:=rI ht
            obtain⟨-,hpos,hroot,h20⟩:=tA hrt
            have hap:=zO.1 hus
            have ht':bX (iL f a s b)=0:=by
              refine fD (cN hI' (by rw [hgl];omega) (by rw [hgk];exact hroot) (by rw [hgd];exact h20)) (by unfold xX at hbd ⊢;rw [hgd];exact hbd) (zO.2 ⟨fun i z hz=> ?_,fun i k z v c hz hv h1 h3=> ?_⟩) (jI fun j z _ hz k e he hbad=> ?_)
              · obtain⟨w,hw,e, -⟩:=hback i z hz;rw [←e];exact hap.one i w hw
              · obtain ⟨w, hw, e, -⟩ := hback i z hz
                obtain⟨u,hu,e2, -⟩:=hback k v hv
                exact hap.two i k w u c hw hu (e ▸ h1) (e2 ▸ h3)
              · obtain ⟨w, hw, -, e2, -⟩ := hback j z hz
                have hb2:aR f.inodes e.ino=0:=by rw [←hgk];exact hbad
                rw [e2] at he
                split at he
                · rename_i hj
                  rcases uF (List.mem_of_getElem? he) with h5 | h5
                  · subst h5;exact hkb hb2
                  · obtain ⟨q, hq⟩ := List.mem_iff_getElem?.1 h5
                    exact zR ht _ x hx q e hq hb2
                · exact zR ht j w hw k e he hb2
            have hdc:fI (iL f a s b) a=0:=kR ht' (by unfold bR;rw [hgl];exact hp) (by rw [hgk];exact hk2)
            have hea:aB (iL f a s b).inodes a=dL x.ents ⟨s,b⟩:=by rw [hge,if_pos rfl]
            have hlk:eI (dL x.ents ⟨s,b⟩) s=b:=by
              have hsp:=rP s x.ents
              have:(dL x.ents ⟨s,b⟩)[qK x.ents s]? =some ⟨s,b⟩:=by rw [uR rfl hsp.1,if_neg (Nat.lt_irrefl _),if_pos rfl]
              exact yJ hsE this
            have hnc:eE (iL f a s b) a s=0:=by rw [kF hdc];exact hnf
            refine⟨hd,fun k nm hnm=> ?_,?_,?_,?_,?_,fun he=> ?_,?_,?_,?_,fun k nm hnm=> ?_⟩
            · rw [kU hd, hxe] at hnm
              change (iC x.ents)[k]? =some nm at hnm
              unfold iC at hnm
              rw [List.getElem?_map] at hnm
              obtain⟨e,he,rfl⟩:=Option.map_eq_some_iff.1 hnm
              obtain⟨q,hq⟩:∃q,(dL x.ents ⟨s,b⟩)[q]? =some e:=by
                have hsp:=rP s x.ents
                by_cases hk:k<qK x.ents s
                · exact⟨k,by rw [uR rfl hsp.1,if_pos hk];exact he⟩
                · exact⟨k+1,by rw [uR rfl hsp.1,if_neg (by show¬k+1<qK x.ents s;omega),if_neg (by show¬k+1=qK x.ents s;omega)];exact he⟩
              have hef:=(nN hxI k e he)
              have e1:eI (aB f.inodes a) e.name=e.ino:=by rw [hxe];exact yJ hsx he
              have e2:eI (aB (iL f a s b).inodes a) e.name=e.ino:=by rw [hea];exact yJ hsE hq
              rw [sB (by rw [kF hdc];exact hef.1) (by rw [e2];omega),sB (by rw [kF hd];exact hef.1) (by rw [e1];omega),e1,e2]
            · rw [sB hnc (by rw [hea,hlk];omega),hea,hlk]
            · rw [kU hdc, kU hd, hea, hxe]
              show(iC (dL x.ents ⟨s,b⟩)).length=(iC x.ents).length+1
              unfold iC
              rw [List.length_map,List.length_map,hlE]
            · rw [oY hnc (by rw [hea, hlk]; omega), hea, hlk, aGc (n := ⟨s, b⟩) hno]
              congr 1
              rw [←hxe]
              by_cases hk:aR f.inodes b=1
              · have hne:a.toNat≠b.toNat:=fun e=>by
                  rw [e,hy] at hx
                  obtain rfl:=Option.some.inj hx
                  omega
                have e1:bH (iL f a s b) a (aB f.inodes a)=⟨eO f.inodes b (bP f.inodes b+1),f.data⟩:=by
                  rw [gI h2 hk]
                  show(⟨eD (eO (eD f.inodes a _) b _) a (aB f.inodes a),f.data⟩:DFs)=_
                  rw [aC1 (by omega) (by omega) hne]
                have hl1:=(aDk hyI (by rw [←hyk];exact hk)).1.1
                have e2:bP (eO f.inodes b (bP f.inodes b+1)) b=bP f.inodes b+1:=by
                  unfold eO
                  rw [hy]
                  dsimp only
                  rw [dC (mX (l:=f.inodes) (j:=b.toNat) (by omega) |>.trans (if_pos rfl)) (by omega)]
                rw [e1,mY (by rw [xW];exact hk) (by dsimp only;rw [e2,hyl];omega)]
                dsimp only
                rw [vV,e2,show bP f.inodes b+1 - 1=bP f.inodes b by omega,xJ]
              · have e1:bH (iL f a s b) a (aB f.inodes a)=f:=by
                  rw [gJ h2 hk]
                  show(⟨eD (eD f.inodes a _) a (aB f.inodes a),f.data⟩:DFs)=_
                  rw [aDw]
                rw [e1,mT hk]
            · rw [kU hd]
              show oG f a↔((iC (aB f.inodes a)).length:Int)=0
              unfold iC oG
              rw [List.length_map]
              exact⟨fun h=>by omega,fun h=>⟨hd,by omega⟩⟩
            · have := he.2
              rw [hea,hlE] at this
              omega
            · rw [pM hI' (by unfold bR; rw [hgl]; exact hpb), pM hI (by unfold bR; exact hpb)]
              show((eL (iL f a s b).inodes b:Nat):Int)=((eL f.inodes b:Nat):Int)+1
              have h5:eL (eD f.inodes a (dL (aB f.inodes a) ⟨s,b⟩)) b=eL f.inodes b+1:=by
                have h6:eD f.inodes a (dL (aB f.inodes a) ⟨s,b⟩)=f.inodes.set a.toNat ⟨x.kind,x.links,x.size,x.blocks,dL x.ents ⟨s,b⟩⟩:=by unfold eD;rw [hx,hxe]
                have h7:=oX (gB b) (y:=⟨x.kind,x.links,x.size,x.blocks,dL x.ents ⟨s,b⟩⟩) hx
                rw [←h6] at h7
                have h8:gB b ⟨x.kind,x.links,x.size,x.blocks,dL x.ents ⟨s,b⟩⟩=gB b x+1:=by
                  show fQ (lJ b) (dL x.ents ⟨s,b⟩)=fQ (lJ b) x.ents+1
                  rw [aGw]
                  simp [lJ]
                unfold eL
                omega
              by_cases hk:aR f.inodes b=1
              · rw [gI h2 hk];dsimp only;rw [wY,h5];omega
              · rw [gJ h2 hk];dsimp only;rw [h5];omega
            · rw [kU hd]
              show(iC (aB f.inodes a)).length≤6
              unfold iC
              rw [List.length_map,hxe]
              exact aC9 hxI
            · rw [pM hI (by unfold bR; exact hpb)]
              have:=pH hI b
              show 0≤((eL f.inodes b:Nat):Int)∧((eL f.inodes b:Nat):Int)≤60
              omega
            · rw [kU hd, hxe] at hnm
              change (iC x.ents)[k]? =some nm at hnm
              unfold iC at hnm
              rw [List.getElem?_map] at hnm
              obtain⟨e,he,rfl⟩:=Option.map_eq_some_iff.1 hnm
              exact(rV (nN hxI k e he).1).1
    · rw [lB h h2] at hc;exact absurd hc h2
  · rw [mR h] at hc;exact absurd hc h
end Go.Proofs.YtmejbfmhaoilmaaGreat
/- What is proved: what a guard leaves out, in one stride. No condition. -/
namespace Go.Proofs.YtmejbfmhaoilmaaGreat
open Go Go.RowKit
set_option linter.unusedVariables false
set_option linter.unusedSimpArgs false
end Go.Proofs.YtmejbfmhaoilmaaGreat

/- What is proved: assertions with footprints, their product; kinds of values, read and owned. No condition. -/
import Derived.WalkKit
import Derived.Below
import Derived.OrdersHeld
import Derived.Deep.RegionHeld3
import Derived.KernelRfl
import Derived.Laws.MakeOwn
import Derived.Laws.Rows
import Derived.Laws.Append
import Derived.Laws.CopyRow
import Derived.IntWalk
import Derived.ChangeArms
import Derived.SizedLaws
import Derived.OpenShut
import Derived.ChangeMaps5
import Derived.Handed
import Init
import Derived.Laws.BytesArg
namespace Go.Proofs.YtmejbfmhaoilmaaGreatDoor
open Go Go.RowKit
set_option linter.unusedVariables false
set_option linter.unusedSimpArgs false

abbrev Bs:=Nat→Prop

structure Asn where
  p:World→Bs→Prop
  up:∀{w:World}{S S':Bs},p w S→(∀b,S b→S' b)→p w S'
  loc:∀{w w':World}{S:Bs},p w S→(∀b,S b→w'.heap[b]? =w.heap[b]?)→p w' S
  lt:∀{w:World}{S:Bs},p w S→p w (fun b=>S b∧b<w.heap.size)

def cI : List Asn → World → Bs → Prop
  | [],_,_=>True
  | c :: l,w,S=>∃S1 S2:Bs,c.p w S1∧cI l w S2∧(∀b,S1 b→S b)∧(∀b,S2 b→S b)∧∀b,S1 b→¬S2 b

theorem cI.up : ∀ {l : List Asn} {w : World} {S S' : Bs}, cI l w S → (∀ b, S b → S' b) → cI l w S'
  | [],_,_,_,_,_=>trivial
  | _ :: _,_,_,_,⟨S1,S2,h1,h2,a,b,d⟩,h=>⟨S1,S2,h1,h2,fun x hx=>h x (a x hx),fun x hx=>h x (b x hx),d⟩

theorem cI.loc : ∀ {l : List Asn} {w w' : World} {S : Bs}, cI l w S → (∀ b, S b → w'.heap[b]? = w.heap[b]?) → cI l w' S
  | [],_,_,_,_,_=>trivial
  | c :: _,_,_,_,⟨S1,S2,h1,h2,a,b,d⟩,h=>⟨S1,S2,c.loc h1 (fun x hx=>h x (a x hx)),cI.loc h2 (fun x hx=>h x (b x hx)),a,b,d⟩

theorem cI.lt : ∀ {l : List Asn} {w : World} {S : Bs}, cI l w S → cI l w (fun b => S b ∧ b < w.heap.size)
  | [],_,_,_=>trivial
  | c :: _,w,_,⟨S1,S2,h1,h2,a,b,d⟩=>
    ⟨fun x=>S1 x∧x<w.heap.size,fun x=>S2 x∧x<w.heap.size,c.lt h1,cI.lt h2,fun x hx=>⟨a x hx.1,hx.2⟩,fun x hx=>⟨b x hx.1,hx.2⟩,fun x hx hy=>d x hx.1 hy.1⟩

theorem cI.app : ∀ {l1 l2 : List Asn} {w : World} {S1 S2 S : Bs}, cI l1 w S1 → cI l2 w S2 → (∀ b, S1 b → S b) → (∀ b, S2 b → S b) → (∀ b, S1 b → ¬ S2 b) → cI (l1 ++ l2) w S
  | [],_,_,_,_,_,_,h2,_,b,_=>h2.up b
  | _ :: _,_,_,_,S2,_,⟨A,B,hc,hl,a1,b1,d1⟩,h2,a,b,d=>
    ⟨A,fun x=>B x∨S2 x,hc,cI.app hl h2 (fun _ h=> .inl h) (fun _ h=> .inr h) (fun x hx=>d x (b1 x hx)),fun x hx=>a x (a1 x hx),fun x hx=>hx.elim (fun h=>a x (b1 x h)) (b x),
      fun x hx hy=>hy.elim (d1 x hx) (d x (a1 x hx))⟩

theorem cI.split : ∀ {l1 l2 : List Asn} {w : World} {S : Bs}, cI (l1 ++ l2) w S → ∃ S1 S2 : Bs, cI l1 w S1 ∧ cI l2 w S2 ∧ (∀ b, S1 b → S b) ∧ (∀ b, S2 b → S b) ∧ ∀ b, S1 b → ¬ S2 b
  | [],_,_,S,h=>⟨fun _=>False,S,trivial,h,fun _ h=>h.elim,fun _ h=>h,fun _ h=>h.elim⟩
  | _ :: _,_,_,_,⟨A,B,hc,hl,a,b,d⟩=>by
    obtain⟨S1,S2,h1,h2,a1,b1,d1⟩:=cI.split hl
    exact⟨fun x=>A x∨S1 x,S2,⟨A,S1,hc,h1,fun _ h=> .inl h,fun _ h=> .inr h,fun x hx hy=>d x hx (a1 x hy)⟩,h2,
      fun x hx=>hx.elim (a x) (fun h=>b x (a1 x h)),fun x hx=>b x (b1 x hx),fun x hx hy=>hx.elim (fun h=>d x h (b1 x hy)) (fun h=>d1 x h hy)⟩

inductive fG : List Asn → Asn → List Asn → Prop
  | z {c:Asn}{l:List Asn}:fG (c :: l) c l
  | s {d:Asn}{l:List Asn}{c:Asn}{l':List Asn}:fG l c l'→fG (d :: l) c (d :: l')

theorem fG.s16 {q0 q1 q2 q3 q4 q5 q6 q7 q8 q9 q10 q11 q12 q13 q14 q15:Asn}{l:List Asn}{c:Asn}{l':List Asn} (h:fG l c l'):fG (q0 :: q1 :: q2 :: q3 :: q4 :: q5 :: q6 :: q7 :: q8 :: q9 :: q10 :: q11 :: q12 :: q13 :: q14 :: q15 :: l) c (q0 :: q1 :: q2 :: q3 :: q4 :: q5 :: q6 :: q7 :: q8 :: q9 :: q10 :: q11 :: q12 :: q13 :: q14 :: q15 :: l'):= .s (.s (.s (.s (.s (.s (.s (.s (.s (.s (.s (.s (.s (.s (.s (.s h)))))))))))))))
theorem cI.take {l:List Asn}{c:Asn}{l':List Asn} (ht:fG l c l'):∀{w:World}{S:Bs},cI l w S→cI (c :: l') w S:=by
  induction ht with
  | z=>exact fun h=>h
  | s _ ih=>
    intro w S ⟨D,R,hd,hl,a,b,d⟩
    obtain⟨C,R',hc,hl',a',b',d'⟩:=ih hl
    exact⟨C,fun x=>D x∨R' x,hc,⟨D,R',hd,hl',fun _ h=> .inl h,fun _ h=> .inr h,fun x hx hy=>d x hx (b' x hy)⟩,
      fun x hx=>b x (a' x hx),fun x hx=>hx.elim (a x) (fun h=>b x (b' x h)),fun x hx hy=>hy.elim (fun h=>d x h (a' x hx)) (d' x hx)⟩

inductive mT : List Asn → List Asn → List Asn → Prop
  | n {l:List Asn}:mT l [] l
  | c {l:List Asn}{x:Asn}{l1 cs l2:List Asn}:fG l x l1→mT l1 cs l2→mT l (x :: cs) l2

theorem cI.takes {l cs r:List Asn} (ht:mT l cs r):∀{w:World}{S:Bs},cI l w S→cI (cs++r) w S:=by
  induction ht with
  | n=>exact fun h=>h
  | c h1 _ ih=>
    intro w S h
    obtain⟨A,B,hc,hl,a,b,d⟩:=h.take h1
    exact⟨A,B,hc,ih hl,a,b,d⟩

theorem cI.drop {c:Asn}{l:List Asn}{w:World}{S:Bs}:cI (c :: l) w S→cI l w S:=fun⟨_,_,_,hl,_,b,_⟩=>hl.up b
theorem cI.head {c:Asn}{l:List Asn}{w:World}{S:Bs}:cI (c :: l) w S→c.p w S:=fun⟨_,_,hc,_,a,_,_⟩=>c.up hc a
theorem cI.one {c:Asn}{w:World}{S:Bs} (h:c.p w S):cI [c] w S:=⟨S,fun _=>False,h,trivial,fun _ h=>h,fun _ h=>h.elim,fun _ _ h=>h⟩

inductive Sb : List Asn → List Asn → Prop
  | z {l:List Asn}:Sb l l
  | s {c:Asn}{l k:List Asn}:Sb l k→Sb (c :: l) k
theorem Sb.s16 {q0 q1 q2 q3 q4 q5 q6 q7 q8 q9 q10 q11 q12 q13 q14 q15:Asn}{l k:List Asn} (h:Sb l k):Sb (q0 :: q1 :: q2 :: q3 :: q4 :: q5 :: q6 :: q7 :: q8 :: q9 :: q10 :: q11 :: q12 :: q13 :: q14 :: q15 :: l) k:= .s (.s (.s (.s (.s (.s (.s (.s (.s (.s (.s (.s (.s (.s (.s (.s h)))))))))))))))
theorem cI.sb {l k:List Asn} (h:Sb l k):∀{w:World}{S:Bs},cI l w S→cI k w S:=by
  induction h with
  | z=>exact fun h=>h
  | s _ ih=>exact fun h=>ih h.drop

structure Kd (α : Type) where
  sz:Nat
  pos:0<sz
  ro:World→Bs→α→List Value→Prop
  own:World→Bs→α→List Value→Prop
  ro_len:∀{w:World}{F:Bs}{x:α}{cs:List Value},ro w F x cs→cs.length=sz
  ro_one:∀{w:World}{F:Bs}{x:α}{cs:List Value},ro w F x cs→∀u,u∈cs→u.oneCell'=true
  ro_up:∀{w:World}{F F':Bs}{x:α}{cs:List Value},ro w F x cs→(∀b,F b→F' b)→ro w F' x cs
  ro_loc:∀{w w':World}{F:Bs}{x:α}{cs:List Value},ro w F x cs→(∀b,F b→w'.heap[b]? =w.heap[b]?)→ro w' F x cs
  own_ro:∀{w:World}{S:Bs}{x:α}{cs:List Value},own w S x cs→ro w S x cs
  own_up:∀{w:World}{S S':Bs}{x:α}{cs:List Value},own w S x cs→(∀b,S b→S' b)→own w S' x cs
  own_loc:∀{w w':World}{S:Bs}{x:α}{cs:List Value},own w S x cs→(∀b,S b→w'.heap[b]? =w.heap[b]?)→own w' S x cs
  own_lt:∀{w:World}{S:Bs}{x:α}{cs:List Value},own w S x cs→own w (fun b=>S b∧b<w.heap.size) x cs
def aH {α:Type} (K:Kd α) (x:α) (cs:List Value):Asn:=⟨fun w S=>K.own w S x cs,K.own_up,K.own_loc,K.own_lt⟩
theorem wS {α:Type}{K:Kd α}{w:World}{S:Bs}{x:α}{cs:List Value} (h:K.own w S x cs):cs.length=K.sz:=K.ro_len (K.own_ro h)

def mO {α : Type} (enc : α → Value) (ok : α → Prop) (h1 : ∀ x, (enc x).oneCell' = true) : Kd α where
  sz:=1
  pos:=Nat.one_pos
  ro _ _ x cs:=cs= [enc x]∧ok x
  own _ _ x cs:=cs= [enc x]∧ok x
  ro_len h:=by rw [h.1];rfl
  ro_one h u hu:=by rw [h.1] at hu;obtain rfl:=List.mem_singleton.1 hu;exact h1 _
  ro_up h _:=h
  ro_loc h _:=h
  own_ro h:=h
  own_up h _:=h
  own_loc h _:=h
  own_lt h:=h
def gS (k:IntKind):Kd Int:=mO (Value.int k) (fun _=>True) (fun _=>rfl)
def zL:Kd Bool:=mO Value.bool (fun _=>True) (fun _=>rfl)
def pQ:Kd ByteArray:=mO Value.string (fun s=>s.size≤140737488351232) (fun _=>rfl)
def vP:Kd UInt8:=mO (fun b=>Value.int .u8 b.toNat) (fun _=>True) (fun _=>rfl)

def jE {α β : Type} (A : Kd α) (B : Kd β) : Kd (α × β) where
  sz:=A.sz+B.sz
  pos:=Nat.add_pos_left A.pos _
  ro w F x cs:=∃c1 c2,cs=c1++c2∧A.ro w F x.1 c1∧B.ro w F x.2 c2
  own w S x cs:=∃c1 c2,cs=c1++c2∧cI [aH A x.1 c1,aH B x.2 c2] w S
  ro_len:=by rintro w F x cs ⟨c1,c2,rfl,h1,h2⟩;rw [List.length_append,A.ro_len h1,B.ro_len h2]
  ro_one:=by
    rintro w F x cs ⟨c1,c2,rfl,h1,h2⟩ u hu
    rcases List.mem_append.1 hu with h | h
    · exact A.ro_one h1 u h
    · exact B.ro_one h2 u h
  ro_up:=by rintro w F F' x cs ⟨c1,c2,rfl,h1,h2⟩ h;exact⟨c1,c2,rfl,A.ro_up h1 h,B.ro_up h2 h⟩
  ro_loc:=by rintro w w' F x cs ⟨c1,c2,rfl,h1,h2⟩ h;exact⟨c1,c2,rfl,A.ro_loc h1 h,B.ro_loc h2 h⟩
  own_ro:=by
    rintro w S x cs ⟨c1,c2,rfl,h⟩
    exact⟨c1,c2,rfl,A.own_ro h.head,B.own_ro h.drop.head⟩
  own_up:=by rintro w S S' x cs ⟨c1,c2,rfl,h⟩ hs;exact⟨c1,c2,rfl,h.up hs⟩
  own_loc:=by rintro w w' S x cs ⟨c1,c2,rfl,h⟩ hs;exact⟨c1,c2,rfl,h.loc hs⟩
  own_lt:=by rintro w S x cs ⟨c1,c2,rfl,h⟩;exact⟨c1,c2,rfl,h.lt⟩
def aGj {α β : Type} (K : Kd α) (f : β → α) : Kd β where
  sz:=K.sz
  pos:=K.pos
  ro w F x cs:=K.ro w F (f x) cs
  own w S x cs:=K.own w S (f x) cs
  ro_len h:=K.ro_len h
  ro_one h:=K.ro_one h
  ro_up h:=K.ro_up h
  ro_loc h:=K.ro_loc h
  own_ro h:=K.own_ro h
  own_up h:=K.own_up h
  own_loc h:=K.own_loc h
  own_lt h:=K.own_lt h

theorem sY {css:List (List Value)}{n:Nat} (hl:∀c,c∈css→c.length=n):∀{j:Nat}{c:List Value},css[j]? =some c→∀i,i<n→css.flatten[j * n+i]? =c[i]? :=by
  induction css with
  | nil=>intro j c h;simp at h
  | cons d css ih=>
    intro j c h i hi
    have hd:=hl d List.mem_cons_self
    cases j with
    | zero=>
      simp at h
      subst h
      simp only [List.flatten_cons,Nat.zero_mul,Nat.zero_add]
      rw [List.getElem?_append_left (by omega)]
    | succ j=>
      simp only [List.getElem?_cons_succ] at h
      simp only [List.flatten_cons]
      rw [List.getElem?_append_right (by rw [hd,Nat.succ_mul];omega),hd]
      have e:(j+1) * n+i - n=j * n+i:=by rw [Nat.succ_mul];omega
      rw [e]
      exact ih (fun c hc=>hl c (List.mem_cons_of_mem _ hc)) h i hi
theorem kE {css:List (List Value)}{n:Nat} (hl:∀c,c∈css→c.length=n):css.flatten.length=css.length * n:=by
  induction css with
  | nil=>simp
  | cons d css ih=>
    simp only [List.flatten_cons,List.length_append,List.length_cons,ih (fun c hc=>hl c (List.mem_cons_of_mem _ hc)),hl d List.mem_cons_self,Nat.succ_mul]
    omega
def jQ {α:Type} (K:Kd α) (xs:List α) (css:List (List Value)):List Asn:=List.zipWith (fun x c=>aH K x c) xs css
theorem pV {α : Type} {K : Kd α} : ∀ {xs : List α} {css : List (List Value)} {w : World} {S : Bs}, css.length = xs.length → cI (jQ K xs css) w S → ∀ c, c ∈ css → c.length = K.sz
  | [],[],_,_,_,_,c,hc=>by cases hc
  | x :: xs,d :: css,w,S,hl,h,c,hc=>by
    rcases List.mem_cons.1 hc with rfl | hc
    · exact wS (show K.own w S x c from cI.head (c:=aH K x c) h)
    · exact pV (by simpa using hl) (cI.drop (c:=aH K x d) h) c hc
  | [],_ :: _,_,_,hl,_,_,_=>by simp at hl
theorem wX {α : Type} {K : Kd α} : ∀ {xs : List α} {css : List (List Value)} {w : World} {S : Bs}, cI (jQ K xs css) w S → ∀ {j : Nat} {x : α} {c : List Value}, xs[j]? = some x → css[j]? = some c → K.own w S x c
  | [],_,_,_,_,j,x,c,h,_=>by simp at h
  | _ :: _,[],_,_,_,j,x,c,_,h=>by simp at h
  | y :: xs,d :: css,w,S,h,j,x,c,hx,hc=>by
    cases j with
    | zero=>
      simp at hx hc
      subst hx;subst hc
      exact cI.head (c:=aH K y d) h
    | succ j=>exact wX (cI.drop (c:=aH K y d) h) (by simpa using hx) (by simpa using hc)

def yN {α:Type} (K:Kd α) (w:World) (F:Bs) (ad:Addr) (xs:List α):Prop:=
  F ad.block∧∀(j:Nat) (x:α),xs[j]? =some x→∃ecs,K.ro w F x ecs∧∀i u,ecs[i]? =some u→w.cell? (ad.add (j * K.sz+i))=some u
theorem lQ (a:Addr) (n:Nat):(a.add n).block=a.block:=by unfold Addr.add;split <;> rfl
theorem jA (a:Addr) (i j:Nat):(a.add i).add j=a.add (i+j):=by
  unfold Addr.add
  by_cases hi:i=0
  · subst hi;simp
  · by_cases hj : j = 0
    · subst hj;simp
    · simp [hi,hj,Nat.add_assoc]
theorem tP {w w':World}{a:Addr} (h:w'.heap[a.block]? =w.heap[a.block]?):w'.cell? a=w.cell? a:=by simp [World.cell?,h]
theorem yN.loc {α:Type}{K:Kd α}{w w':World}{F:Bs}{ad:Addr}{xs:List α} (h:yN K w F ad xs) (hl:∀b,F b→w'.heap[b]? =w.heap[b]?):yN K w' F ad xs:=by
  refine⟨h.1,fun j x hx=> ?_⟩
  obtain⟨ecs,h1,h2⟩:=h.2 j x hx
  exact⟨ecs,K.ro_loc h1 hl,fun i u hu=>(tP (by rw [lQ];exact hl _ h.1)).trans (h2 i u hu)⟩
theorem yN.up {α:Type}{K:Kd α}{w:World}{F F':Bs}{ad:Addr}{xs:List α} (h:yN K w F ad xs) (hl:∀b,F b→F' b):yN K w F' ad xs:=
  ⟨hl _ h.1,fun j x hx=>let ⟨ecs,h1,h2⟩:=h.2 j x hx;⟨ecs,K.ro_up h1 hl,h2⟩⟩

def bV (g e sz c : Nat) (fl : List Value) : Asn where
  p w S:=S g∧∃cur:Array Value,w.heap[g]? =some (.cells cur e (0,0))∧cur.size=c * sz∧fl.length≤cur.size∧cur.toList.take fl.length=fl
  up h hs:=⟨hs _ h.1,h.2⟩
  loc:=by rintro w w' S ⟨h,cur,h1,h2⟩ hs;exact⟨h,cur,by rw [hs g h];exact h1,h2⟩
  lt:=by rintro w S ⟨h,cur,h1,h2⟩;exact⟨⟨h,(Array.getElem?_eq_some_iff.1 h1).1⟩,cur,h1,h2⟩

def bM {α : Type} (e by_ : Nat) (K : Kd α) : Kd (List α) where
  sz:=1
  pos:=Nat.one_pos
  ro w F xs cs:=∃A c,cs= [.slice A xs.length c]∧xs.length≤c∧c≤9223372036854775807∧xs.length * by_≤140737488355328∧(0<xs.length→∃ad,A=some ad∧yN K w F ad xs)
  own w S xs cs := (∃ A, cs = [.slice A 0 0] ∧ xs = []) ∨
    ∃g c css,cs= [.slice (some ⟨g,0,none⟩) xs.length c]∧xs.length≤c∧c≤9223372036854775807∧xs.length * by_≤140737488355328∧css.length=xs.length∧cI (bV g e K.sz c css.flatten :: jQ K xs css) w S
  ro_len:=by rintro w F x cs ⟨A,c,rfl,_⟩;rfl
  ro_one:=by rintro w F x cs ⟨A,c,rfl,_⟩ u hu;obtain rfl:=List.mem_singleton.1 hu;rfl
  ro_up:=by rintro w F F' x cs ⟨A,c,rfl,h1,h2,h3,h4⟩ hs;exact⟨A,c,rfl,h1,h2,h3,fun hp=>let ⟨ad,ha,hr⟩:=h4 hp;⟨ad,ha,hr.up hs⟩⟩
  ro_loc:=by rintro w w' F x cs ⟨A,c,rfl,h1,h2,h3,h4⟩ hs;exact⟨A,c,rfl,h1,h2,h3,fun hp=>let ⟨ad,ha,hr⟩:=h4 hp;⟨ad,ha,hr.loc hs⟩⟩
  own_ro:=by
    rintro w S xs cs (⟨A,rfl,rfl⟩ |⟨g,c,css,rfl,h1,h2,h3,h4,h5⟩)
    · exact⟨A,0,rfl,Nat.le_refl _,Nat.zero_le _,by simp,fun h=>absurd h (Nat.lt_irrefl _)⟩
    · refine ⟨_, c, rfl, h1, h2, h3, fun hp => ⟨_, rfl, ?_⟩⟩
      have hseq:=h5.drop
      have hl:=pV h4 hseq
      obtain⟨hS,cur,hc,hcs,hle,htk⟩:=h5.head
      refine⟨hS,fun j x hx=> ?_⟩
      have hj:j<css.length:=by rw [h4];exact(List.getElem?_eq_some_iff.1 hx).1
      have hcj:css[j]? =some css[j]:=List.getElem?_eq_getElem hj
      refine⟨css[j],K.own_ro (wX hseq hx hcj),fun i u hu=> ?_⟩
      have hi:i<K.sz:=by
        have:=(List.getElem?_eq_some_iff.1 hu).1
        rw [hl _ (List.getElem_mem hj)] at this
        exact this
      have hf:=sY hl hcj i hi
      rw [hu] at hf
      have hadd:(⟨g,0,none⟩:Addr).add (j * K.sz+i)=⟨g,j * K.sz+i,none⟩:=by unfold Addr.add;split <;> simp_all
      rw [hadd,cell_of_row w g _ cur e (0,0) hc]
      rw [←htk,List.getElem?_take] at hf
      split at hf
      · simpa using hf
      · cases hf
  own_up:=by
    rintro w S S' xs cs (h |⟨g,c,css,rfl,h1,h2,h3,h4,h5⟩) hs
    · exact .inl h
    · exact .inr ⟨g,c,css,rfl,h1,h2,h3,h4,h5.up hs⟩
  own_loc:=by
    rintro w w' S xs cs (h |⟨g,c,css,rfl,h1,h2,h3,h4,h5⟩) hs
    · exact .inl h
    · exact .inr ⟨g,c,css,rfl,h1,h2,h3,h4,h5.loc hs⟩
  own_lt:=by
    rintro w S xs cs (h |⟨g,c,css,rfl,h1,h2,h3,h4,h5⟩)
    · exact .inl h
    · exact .inr ⟨g,c,css,rfl,h1,h2,h3,h4,h5.lt⟩
end Go.Proofs.YtmejbfmhaoilmaaGreatDoor
/- What is proved: a small logic for walks: a judgement over (slots, chunks), one rule a form of code. No condition. -/
namespace Go.Proofs.YtmejbfmhaoilmaaGreatDoor
open Go Go.RowKit
set_option linter.unusedVariables false
set_option linter.unusedSimpArgs false

structure Fr (w0 : World) (S0 : Bs) (w : World) : Prop where
  os:w.os=w0.os
  tape:w.tape=w0.tape
  output:w.output=w0.output
  size:w0.heap.size≤w.heap.size
  block:∀b,b<w0.heap.size→¬S0 b→w.heap[b]? =w0.heap[b]?
theorem Fr.refl (w:World) (S:Bs):Fr w S w:=⟨rfl,rfl,rfl,Nat.le_refl _,fun _ _ _=>rfl⟩
theorem Fr.trans {w0 w w':World}{S0 S1:Bs} (h:Fr w0 S0 w) (k:Fr w S1 w') (hs:∀b,S1 b→S0 b∨w0.heap.size≤b):Fr w0 S0 w':=
  ⟨k.os.trans h.os,k.tape.trans h.tape,k.output.trans h.output,Nat.le_trans h.size k.size,fun b hb hn=>
    (k.block b (Nat.lt_of_lt_of_le hb h.size) (fun e=>(hs b e).elim hn (fun h'=>by omega))).trans (h.block b hb hn)⟩
theorem Fr.wide {w w':World}{S S':Bs} (h:Fr w S w') (hs:∀b,S b→S' b):Fr w S' w':=⟨h.os,h.tape,h.output,h.size,fun b hb hn=>h.block b hb (fun e=>hn (hs b e))⟩
theorem Fr.below {w0 w:World} (h:Fr w0 (fun _=>False) w):Below w0.heap.size w0 w:=⟨h.os,h.tape,h.output,h.size,fun k hk=>h.block k hk (fun h=>h)⟩
theorem Fr.a {w0 w:World} (h:Below w0.heap.size w0 w) (S:Bs):Fr w0 S w:=⟨h.os,h.tape,h.output,h.size,fun k hk _=>h.block k hk⟩
abbrev eR:=List (Nat×Value)
def Holds (T:eR) (a:Act):Prop:=∀p,p∈T→a.tmps[p.1]? =some p.2
inductive Get {α : Type} : List α → α → Prop
  | z {p:α}{l:List α}:Get (p :: l) p
  | s {p q:α}{l:List α}:Get l p→Get (q :: l) p
theorem Get.s16 {α:Type}{p q0 q1 q2 q3 q4 q5 q6 q7 q8 q9 q10 q11 q12 q13 q14 q15:α}{l:List α} (h:Get l p):Get (q0 :: q1 :: q2 :: q3 :: q4 :: q5 :: q6 :: q7 :: q8 :: q9 :: q10 :: q11 :: q12 :: q13 :: q14 :: q15 :: l) p:= .s (.s (.s (.s (.s (.s (.s (.s (.s (.s (.s (.s (.s (.s (.s (.s h)))))))))))))))
theorem Get.mem {α:Type}{l:List α}{p:α} (h:Get l p):p∈l:=by
  induction h with
  | z=>exact List.mem_cons_self
  | s _ ih=>exact List.mem_cons_of_mem _ ih
inductive Er {α : Type} : List α → α → List α → Prop
  | z {p:α}{l:List α}:Er (p :: l) p l
  | s {p q:α}{l l':List α}:Er l p l'→Er (q :: l) p (q :: l')
theorem Er.s16 {α:Type}{p q0 q1 q2 q3 q4 q5 q6 q7 q8 q9 q10 q11 q12 q13 q14 q15:α}{l l':List α} (h:Er l p l'):Er (q0 :: q1 :: q2 :: q3 :: q4 :: q5 :: q6 :: q7 :: q8 :: q9 :: q10 :: q11 :: q12 :: q13 :: q14 :: q15 :: l) p (q0 :: q1 :: q2 :: q3 :: q4 :: q5 :: q6 :: q7 :: q8 :: q9 :: q10 :: q11 :: q12 :: q13 :: q14 :: q15 :: l'):= .s (.s (.s (.s (.s (.s (.s (.s (.s (.s (.s (.s (.s (.s (.s (.s h)))))))))))))))
theorem Er.sub {α:Type}{l l':List α}{p:α} (h:Er l p l'):∀x,x∈l'→x∈l:=by
  induction h with
  | z=>exact fun x hx=>List.mem_cons_of_mem _ hx
  | s _ ih => intro x hx; rcases List.mem_cons.1 hx with rfl | hx
              · exact List.mem_cons_self
              · exact List.mem_cons_of_mem _ (ih x hx)
theorem Er.mem {α:Type}{l l':List α}{p:α} (h:Er l p l'):p∈l:=by
  induction h with
  | z=>exact List.mem_cons_self
  | s _ ih=>exact List.mem_cons_of_mem _ ih
inductive Sub (T : eR) : eR → Prop
  | n:Sub T []
  | c {p:Nat×Value}{T':eR}:Get T p→Sub T T'→Sub T (p :: T')
  | e {s:Nat}{v v':Value}{T':eR}:Get T (s,v)→v=v'→Sub T T'→Sub T ((s,v') :: T')
theorem Sub.holds {T T':eR} (h:Sub T T') {a:Act} (ha:Holds T a):Holds T' a:=by
  induction h with
  | n=>intro p hp;cases hp
  | c h1 _ ih => intro p hp; rcases List.mem_cons.1 hp with rfl | hp
                 · exact ha _ h1.mem
                 · exact ih p hp
  | e h1 h2 _ ih => intro p hp; rcases List.mem_cons.1 hp with rfl | hp
                    · exact h2 ▸ ha _ h1.mem
                    · exact ih p hp
def Val (T:eR) (x:Operand) (v:Value):Prop:=∀a:Act,Holds T a→a.eval x=v
theorem Val.t {T:eR}{s:Nat}{v:Value} (h:Get T (s,v)):Val T (.tmp s) v:=fun a ha=>by
  have:=ha _ h.mem
  simp only [Act.eval,Array.getD_eq_getD_getElem?,this,Option.getD_some]
theorem Val.c {T:eR}{v:Value}:Val T (.const v) v:=fun _ _=>rfl
theorem Val.f {T:eR}{f:FuncId}:Val T (.func f) (.func (.func f) #[] #[]):=fun _ _=>rfl
def nG (d:Nat) (T:eR):Bool:=T.all fun p=>p.1 != d
theorem Holds.put {T:eR}{a:Act} (h:Holds T a) {d:Nat}{v:Value} (hd:d<a.tmps.size) (hf:nG d T=true):Holds ((d,v) :: T) (a.put (some d) v):=by
  intro p hp
  rcases List.mem_cons.1 hp with rfl | hp
  · simp [Act.put,hd]
  · have hne : p.1 ≠ d := by have := List.all_eq_true.1 hf p hp; simpa using this
    have:=h p hp
    simp only [Act.put,Array.getElem?_setIfInBounds]
    rw [if_neg (fun e=>hne e.symm)]
    exact this
theorem nZ (a:Act) (d:Option Nat) (v:Value):(a.put d v).tmps.size=a.tmps.size:=by cases d <;> simp [Act.put]
theorem lC (a:Act) (d:Option Nat) (v:Value):(a.put d v).defers=a.defers:=by cases d <;> rfl

def WS (w0:World) (S0:Bs) (l:List Asn) (w:World):Prop:=∃S:Bs,cI l w S∧(∀b,S b→S0 b∨w0.heap.size≤b)∧Fr w0 S0 w
def Y (N:Nat) (w0:World) (S0:Bs) (F:Act→World→Prop) (T:eR) (l:List Asn):Prop:=
  ∀(a:Act) (w:World),a.defers= []→a.tmps.size=N→Holds T a→WS w0 S0 l w→F a w

def aI (w0:World) (S0:Bs) (R:Value→List Asn→Prop) (e:Ending) (w':World):Prop:=
  ∃(r:Value) (l':List Asn),e= .returned r∧R r l'∧WS w0 S0 l' w'
def FF (w0:World) (S0:Bs):Bs:=fun b=>b<w0.heap.size∧¬S0 b
structure Tr (w0 : World) (S0 : Bs) (w : World) (S1 : Bs) (lr : List Asn) : Prop where
  ctx:∀{α:Type}{K:Kd α}{x:α}{cs:List Value},K.ro w0 (FF w0 S0) x cs→K.ro w (FF w S1) x cs
  own:∀{α:Type}{K:Kd α}{x:α}{cs:List Value}{l:List Asn},fG lr (aH K x cs) l→K.ro w (FF w S1) x cs
  all:∃S2:Bs,cI lr w S2∧(∀b,S2 b→FF w S1 b)
  wide:∀b,FF w0 S0 b→FF w S1 b∧w.heap[b]? =w0.heap[b]?

section
variable {N:Nat}{w0:World}{S0:Bs}{F:Act→World→Prop}{T:eR}{l:List Asn}{P:Program}{Q:Exit→Act→World→Prop}

theorem WS.take {c:Asn}{l':List Asn}{w:World} (h:fG l c l'):WS w0 S0 l w→WS w0 S0 (c :: l') w:=fun⟨S,a,b,c⟩=>⟨S,a.take h,b,c⟩
theorem WS.takes {cs l':List Asn}{w:World} (h:mT l cs l'):WS w0 S0 l w→WS w0 S0 (cs++l') w:=fun⟨S,a,b,c⟩=>⟨S,a.takes h,b,c⟩
theorem WS.drop {c:Asn}{w:World}:WS w0 S0 (c :: l) w→WS w0 S0 l w:=fun⟨S,a,b,c⟩=>⟨S,a.drop,b,c⟩
theorem WS.sb {k:List Asn}{w:World} (h:Sb l k):WS w0 S0 l w→WS w0 S0 k w:=fun⟨S,a,b,c⟩=>⟨S,a.sb h,b,c⟩

theorem Y.take {c:Asn}{l':List Asn} (h:fG l c l') (k:Y N w0 S0 F T (c :: l')):Y N w0 S0 F T l:=fun a w h1 h2 h3 h4=>k a w h1 h2 h3 (h4.take h)
theorem Y.takes {cs l':List Asn} (h:mT l cs l') (k:Y N w0 S0 F T (cs++l')):Y N w0 S0 F T l:=fun a w h1 h2 h3 h4=>k a w h1 h2 h3 (h4.takes h)
theorem Y.drop {c:Asn} (k:Y N w0 S0 F T l):Y N w0 S0 F T (c :: l):=fun a w h1 h2 h3 h4=>k a w h1 h2 h3 h4.drop
theorem Y.er {p:Nat×Value}{T':eR} (h:Er T p T') (k:Y N w0 S0 F T' l):Y N w0 S0 F T l:=fun a w h1 h2 h3 h4=>k a w h1 h2 (fun x hx=>h3 x (h.sub x hx)) h4
theorem Y.eq {s:Nat}{v v':Value}{T':eR} (h:Er T (s,v) T') (e:v=v') (k:Y N w0 S0 F ((s,v') :: T') l):Y N w0 S0 F T l:=by
  subst e
  exact fun a w h1 h2 h3 h4=>k a w h1 h2 (fun x hx=>by
    rcases List.mem_cons.1 hx with rfl | hx
    · exact h3 _ h.mem
    · exact h3 _ (h.sub x hx)) h4
theorem Y.h {p:Prop} (h:∀w,WS w0 S0 l w→p) (k:p→Y N w0 S0 F T l):Y N w0 S0 F T l:=fun a w h1 h2 h3 h4=>k (h w h4) a w h1 h2 h3 h4
theorem Y.au {c:Asn}{cs l':List Asn} (h:fG l c l') (hc:∀w S,c.p w S→cI cs w S) (k:Y N w0 S0 F T (cs++l')):Y N w0 S0 F T l:=by
  intro a w h1 h2 h3 h4
  obtain⟨S,hs,hb,hf⟩:=h4.take h
  obtain⟨A,B,hc1,hl,i1,i2,d⟩:=hs
  exact k a w h1 h2 h3 ⟨S,(hc _ _ hc1).app hl i1 i2 d,hb,hf⟩
theorem Y.ad {c:Asn}{cs l':List Asn} (h:mT l cs l') (hc:∀w S,cI cs w S→c.p w S) (k:Y N w0 S0 F T (c :: l')):Y N w0 S0 F T l:=by
  intro a w h1 h2 h3 h4
  obtain⟨S,hs,hb,hf⟩:=h4.takes h
  obtain⟨A,B,hc1,hl,i1,i2,d⟩:=hs.split
  exact k a w h1 h2 h3 ⟨S,⟨A,B,hc _ _ hc1,hl,i1,i2,d⟩,hb,hf⟩
theorem Y.ah {α:Type}{K:Kd α}{x x':α}{cs:List Value}{l':List Asn} (h:fG l (aH K x cs) l') (e:x=x') (k:Y N w0 S0 F T (aH K x' cs :: l')):Y N w0 S0 F T l:=by subst e;exact Y.take h k
theorem Y.aa {cs l':List Asn}{γ:Type}{G:γ→List Asn}{φ:γ→Prop} (h:mT l cs l') (hc:∀w S,cI cs w S→∃g,φ g∧cI (G g) w S) (k:∀g,φ g→Y N w0 S0 F T (G g++l')):Y N w0 S0 F T l:=by
  intro a w h1 h2 h3 h4
  obtain⟨S,hs,hb,hf⟩:=h4.takes h
  obtain⟨A,B,hc1,hl,i1,i2,d⟩:=hs.split
  obtain⟨g,hg,hs'⟩:=hc _ _ hc1
  exact k g hg a w h1 h2 h3 ⟨S,hs'.app hl i1 i2 d,hb,hf⟩

theorem WS.sel {cs r:List Asn}{w:World} (h:mT l cs r):WS w0 S0 l w→WS w0 S0 cs w:=fun hw=>by
  obtain⟨S,a,b,c⟩:=hw.takes h
  obtain⟨A,_,h1,_,h2,_,_⟩:=a.split
  exact⟨S,h1.up h2,b,c⟩
theorem Y.sel {cs r:List Asn} (h:mT l cs r) (k:Y N w0 S0 F T cs):Y N w0 S0 F T l:=fun a w h1 h2 h3 h4=>k a w h1 h2 h3 (h4.sel h)
theorem Y.add {c:Asn} (h:∀w S,c.p w S) (k:Y N w0 S0 F T (c :: l)):Y N w0 S0 F T l:=fun a w h1 h2 h3 ⟨S,hs,hb,hf⟩=>
  k a w h1 h2 h3 ⟨S,⟨fun _=>False,S,h w _,hs,fun _ h=>h.elim,fun _ h=>h,fun _ h=>h.elim⟩,hb,hf⟩
inductive Cat : List Asn → List Asn → List Asn → Prop
  | n {l:List Asn}:Cat [] l l
  | c {x:Asn}{l1 l2 l3:List Asn}:Cat l1 l2 l3→Cat (x :: l1) l2 (x :: l3)
theorem Cat.eq {l1 l2 l3:List Asn} (h:Cat l1 l2 l3):l1++l2=l3:=by
  induction h with
  | n=>rfl
  | c _ ih=>simp [ih]
theorem Y.m {l1 l2 l3:List Asn} (h:Cat l1 l2 l3) (k:Y N w0 S0 F T l3):Y N w0 S0 F T (l1++l2):=by rw [h.eq];exact k

theorem Y.seq {x y:Code} (h:Y N w0 S0 (x.wp P (Exit.then (y.wp P Q) Q)) T l):Y N w0 S0 ((Code.seq x y).wp P Q) T l:=fun a w h1 h2 h3 h4=>wp_seq (h a w h1 h2 h3 h4)
theorem Y.region {id:Nat}{os:List Oper} (h:Y N w0 S0 (wpList P os.toArray Q os) T l):Y N w0 S0 ((Code.region id os.toArray false).wp P Q) T l:=fun a w h1 h2 h3 h4=>wp_region_lit (h a w h1 h2 h3 h4)
theorem Y.nil {ops:Array Oper} (h:Y N w0 S0 (Q .normal) T l):Y N w0 S0 (wpList P ops Q []) T l:=h
theorem Y.g {K:Act→World→Prop} (h:Y N w0 S0 K T l):Y N w0 S0 (Exit.then K Q .normal) T l:=h
theorem Y.y {K:Act→World→Prop}{i:Nat} (h:Y N w0 S0 (Q (.exit i)) T l):Y N w0 S0 (Exit.then K Q (.exit i)) T l:=h
theorem Y.j {K:Act→World→Prop} (h:Y N w0 S0 (Q .ret) T l):Y N w0 S0 (Exit.then K Q .ret) T l:=h
theorem Y.ag {i:Nat} (h:Y N w0 S0 (Q .normal) T l):Y N w0 S0 (Exit.inBlock i Q (.exit i)) T l:=fun a w h1 h2 h3 h4=>by
  simp only [Exit.inBlock,if_true];exact h a w h1 h2 h3 h4
theorem Y.a3 {i j:Nat} (hne:j≠i) (h:Y N w0 S0 (Q (.exit j)) T l):Y N w0 S0 (Exit.inBlock i Q (.exit j)) T l:=fun a w h1 h2 h3 h4=>by
  simp only [Exit.inBlock,if_neg hne];exact h a w h1 h2 h3 h4
theorem Y.v {i:Nat} (h:Y N w0 S0 (Q .ret) T l):Y N w0 S0 (Exit.inBlock i Q .ret) T l:=h
theorem Y.ab {i:Nat} (h:Y N w0 S0 (Q .normal) T l):Y N w0 S0 (Exit.inBlock i Q .normal) T l:=h
theorem Y.skip (h:Y N w0 S0 (Q .normal) T l):Y N w0 S0 (Code.skip.wp P Q) T l:=fun a w h1 h2 h3 h4=>wp_skip (h a w h1 h2 h3 h4)
theorem Y.ret (h:Y N w0 S0 (Q .ret) T l):Y N w0 S0 (Code.ret.wp P Q) T l:=fun a w h1 h2 h3 h4=>wp_ret (h a w h1 h2 h3 h4)
theorem Y.exit {i:Nat} (h:Y N w0 S0 (Q (.exit i)) T l):Y N w0 S0 ((Code.exit i).wp P Q) T l:=fun a w h1 h2 h3 h4=>wp_exit (h a w h1 h2 h3 h4)
theorem Y.block {i:Nat}{c:Code} (h:Y N w0 S0 (c.wp P (Exit.inBlock i Q)) T l):Y N w0 S0 ((Code.block i c).wp P Q) T l:=fun a w h1 h2 h3 h4=>wp_block (h a w h1 h2 h3 h4)
theorem Y.aq {c:Operand}{x y:Code} (hv:Val T c (.bool true)) (h:Y N w0 S0 (x.wp P Q) T l):Y N w0 S0 ((Code.cond c x y).wp P Q) T l:=fun a w h1 h2 h3 h4=>wp_cond_true (hv a h3) (h a w h1 h2 h3 h4)
theorem Y.ap {c:Operand}{x y:Code} (hv:Val T c (.bool false)) (h:Y N w0 S0 (y.wp P Q) T l):Y N w0 S0 ((Code.cond c x y).wp P Q) T l:=fun a w h1 h2 h3 h4=>wp_cond_false (hv a h3) (h a w h1 h2 h3 h4)
theorem Y.cond {c:Operand}{x y:Code}{b:Bool} (hv:Val T c (.bool b)) (ht:b=true→Y N w0 S0 (x.wp P Q) T l) (hf:b=false→Y N w0 S0 (y.wp P Q) T l):Y N w0 S0 ((Code.cond c x y).wp P Q) T l:=
  fun a w h1 h2 h3 h4=>wp_cond_split (hv a h3) (fun h=>ht h a w h1 h2 h3 h4) (fun h=>hf h a w h1 h2 h3 h4)
theorem Y.u {c:Operand}{x y:Code}{p:Prop} [Decidable p] (hv:Val T c (.bool (decide p))) (ht:p→Y N w0 S0 (x.wp P Q) T l) (hf:¬p→Y N w0 S0 (y.wp P Q) T l):Y N w0 S0 ((Code.cond c x y).wp P Q) T l:=
  Y.cond hv (fun h=>ht (of_decide_eq_true h)) (fun h=>hf (of_decide_eq_false h))
theorem Y.ac {c:Operand}{x y:Code}{p:Prop} [Decidable p] (hv:Val T c (.bool (!decide p))) (ht:¬p→Y N w0 S0 (x.wp P Q) T l) (hf:p→Y N w0 S0 (y.wp P Q) T l):Y N w0 S0 ((Code.cond c x y).wp P Q) T l:=
  Y.cond hv (fun h=>ht (by simpa using h)) (fun h=>hf (by simpa using h))

theorem Y.loop {c : Code} {γ : Type} (Tm : γ → eR) (lm : γ → List Asn) (φ : γ → Prop) (μ : γ → Nat)
    (round:∀g,φ g→Y N w0 S0 (c.wp P (Exit.then (fun a w=>a.defers= []∧a.tmps.size=N∧∃g',φ g'∧μ g'<μ g∧Holds (Tm g') a∧WS w0 S0 (lm g') w) Q)) (Tm g) (lm g))
    (g0:γ) (h0:φ g0):Y N w0 S0 ((Code.loop c).wp P Q) (Tm g0) (lm g0):=by
  intro a w h1 h2 h3 h4 b k cs
  have key:∀n g,μ g=n→φ g→∀a w,a.defers= []→a.tmps.size=N→Holds (Tm g) a→WS w0 S0 (lm g) w→
      ∃e a' w',Q e a' w'∧Arrives P (Go.lone (b.at a (.code c :: .inLoop c :: k)) cs w) b k cs e a' w':=by
    intro n
    induction n using Nat.strongRecOn with
    | _ n ih=>
      intro g hn hg a w h1 h2 h3 h4
      obtain⟨e,a₁,w₁,hq,harr⟩:=round g hg a w h1 h2 h3 h4 b (.inLoop c :: k) cs
      cases e with
      | normal=>
        obtain⟨k1,k2,g',hg',hlt,k3,k4⟩:=hq
        obtain⟨e₂,a₂,w₂,hq₂,harr₂⟩:=ih (μ g') (hn ▸ hlt) g' rfl hg' a₁ w₁ k1 k2 k3 k4
        exact⟨e₂,a₂,w₂,hq₂,.of_steps (Steps.trans harr (.one step_inLoop)) harr₂⟩
      | exit id=>exact⟨_,a₁,w₁,hq,.pass (x:= .inLoop c) rfl (fun _ _=> .inl (by simp)) harr⟩
      | goto l=>exact⟨_,a₁,w₁,hq,.pass (x:= .inLoop c) rfl (fun _ _=> .inl (by simp)) harr⟩
      | ret=>exact⟨_,a₁,w₁,hq,.pass (x:= .inLoop c) rfl (fun _ _=> .inl (by simp)) harr⟩
      | panic ch=>exact⟨_,a₁,w₁,hq,.pass (x:= .inLoop c) rfl (fun _ _=> .inl (by simp)) harr⟩
      | outgrown=>exact⟨_,a₁,w₁,hq,.pass (x:= .inLoop c) rfl (fun _ _=> .inl (by simp)) harr⟩
  obtain⟨e,a',w',hq,harr⟩:=key _ g0 rfl h0 a w h1 h2 h3 h4
  exact⟨e,a',w',hq,.of_steps (.one step_loop) harr⟩
theorem Y.ai {c : Code} {γ : Type} (Tm : γ → eR) (lm : γ → List Asn) (φ : γ → Prop) (μ : γ → Nat) (g0 : γ) (h0 : φ g0) (hT : Sub T (Tm g0)) (hl : ∀ w, WS w0 S0 l w → WS w0 S0 (lm g0) w)
    (round:∀g,φ g→Y N w0 S0 (c.wp P (Exit.then (fun a w=>a.defers= []∧a.tmps.size=N∧∃g',φ g'∧μ g'<μ g∧Holds (Tm g') a∧WS w0 S0 (lm g') w) Q)) (Tm g) (lm g)):Y N w0 S0 ((Code.loop c).wp P Q) T l:=
  fun a w h1 h2 h3 h4=>Y.loop Tm lm φ μ round g0 h0 a w h1 h2 (hT.holds h3) (hl w h4)
theorem Y.ae {γ:Type}{Tm:γ→eR}{lm:γ→List Asn}{φ:γ→Prop}{μ:γ→Nat}{n:Nat} (g':γ) (hg:φ g') (hm:μ g'<n) (hT:Sub T (Tm g')) (hl:∀w,WS w0 S0 l w→WS w0 S0 (lm g') w):
    Y N w0 S0 (Exit.then (fun a w=>a.defers= []∧a.tmps.size=N∧∃g',φ g'∧μ g'<n∧Holds (Tm g') a∧WS w0 S0 (lm g') w) Q .normal) T l:=
  fun _ w h1 h2 h3 h4=>⟨h1,h2,g',hg,hm,hT.holds h3,hl w h4⟩

theorem args_holds {args:Array Value}{n:Nat}{T:eR} (h:∀p,p∈T→args[p.1]? =some p.2):Holds T {tmps:=args++Array.replicate n undef,defers:= []}:=by
  intro p hp
  have:=h p hp
  have hlt:p.1<args.size:=(Array.getElem?_eq_some_iff.1 this).1
  simp only [Array.getElem?_append,if_pos hlt,this]
theorem Y.enter {f : FuncId} {fn : Func} {c : Code} {args : Array Value} {l0 : List Asn} {R : Value → List Asn → Prop} (hf : P.funcs[f]? = some fn) (hb : fn.body = some c) (hN : fn.ntmps = N) (hsz : args.size ≤ N)
    (T:eR) (hT:∀p,p∈T→args[p.1]? =some p.2) (hs:cI l0 w0 S0) (h:Y N w0 S0 (c.wp P (bodyPost P fn (aI w0 S0 R))) T l0):Calls P f args w0 (aI w0 S0 R):=by
  refine calls_of_wp hf hb ?_
  refine h _ _ rfl ?_ (args_holds hT) ⟨S0,hs,fun b hb=> .inl hb,Fr.refl _ _⟩
  simp only [Array.size_append,Array.size_replicate]
  omega
theorem Y.a {fn:Func}{R:Value→List Asn→Prop}{v:Value} (hr:∀(a:Act) (w:World),Holds T a→WS w0 S0 l w→(results fn a.tmps).run P w= .ok v w) (h:R v l):Y N w0 S0 (bodyPost P fn (aI w0 S0 R) .ret) T l:=
  fun a w h1 _ h3 h4=>⟨h1,v,hr a w h3 h4,v,l,rfl,h,h4⟩
theorem Y.i {fn:Func}{R:Value→List Asn→Prop}{v:Value}{cs r:List Asn} (hr:∀(a:Act) (w:World),Holds T a→WS w0 S0 l w→(results fn a.tmps).run P w= .ok v w) (ht:mT l cs r) (h:R v cs):Y N w0 S0 (bodyPost P fn (aI w0 S0 R) .ret) T l:=
  fun a w h1 _ h3 h4=>⟨h1,v,hr a w h3 h4,v,cs,rfl,h,h4.sel ht⟩
theorem Y.ax {fn:Func}{R:Value→List Asn→Prop}{v:Value}{cs r:List Asn} (hr:∀(a:Act) (w:World),Holds T a→WS w0 S0 l w→(results fn a.tmps).run P w= .ok v w) (ht:mT l cs r) (h:R v cs):Y N w0 S0 (bodyPost P fn (aI w0 S0 R) .normal) T l:=
  fun a w h1 _ h3 h4=>⟨h1,v,hr a w h3 h4,v,cs,rfl,h,h4.sel ht⟩
theorem pT {a:Act}{s:Nat}{v:Value} (h:Get T (s,v)) (ha:Holds T a):a.tmps.getD s undef=v:=Val.t h a ha
theorem aU {fn:Func}{s:Nat}{v:Value} (hr:fn.results= #[.tmp s]) (h:Get T (s,v)):∀(a:Act) (w:World),Holds T a→WS w0 S0 l w→(results fn a.tmps).run P w= .ok v w:=
  fun a w ha _=>by rw [results_tmp hr,pT h ha]
theorem aDi {fn:Func} (hr:fn.results= #[]):∀(a:Act) (w:World),Holds T a→WS w0 S0 l w→(results fn a.tmps).run P w= .ok (.tuple #[]) w:=
  fun a w _ _=>results_none hr _ _ _
theorem lA {fn:Func}{s t:Nat}{v u:Value} (hr:fn.results= #[.tmp s,.tmp t]) (h:Get T (s,v)) (k:Get T (t,u)):∀(a:Act) (w:World),Holds T a→WS w0 S0 l w→(results fn a.tmps).run P w= .ok (.tuple #[v,u]) w:=
  fun a w ha _=>by rw [results_tmp2 hr,pT h ha,pT k ha]
theorem wC {fn:Func}{s t q:Nat}{v u x:Value} (hr:fn.results= #[.tmp s,.tmp t,.tmp q]) (h:Get T (s,v)) (k:Get T (t,u)) (j:Get T (q,x)):∀(a:Act) (w:World),Holds T a→WS w0 S0 l w→(results fn a.tmps).run P w= .ok (.tuple #[v,u,x]) w:=
  fun a w ha _=>by
    have e1:=pT h ha
    have e2:=pT k ha
    have e3:=pT j ha
    simp only [Array.getD_eq_getD_getElem?] at e1 e2 e3
    simp [results,hr,e1,e2,e3]

def eO (P:Program) (o:Oper) (T:eR) (Wd:World→Prop) (v:Value):Prop:=∀(a:Act) (w:World),Holds T a→Wd w→(execOp a.eval o).run P w= .ok (.value v) w
def Eff (P:Program) (o:Oper) (T:eR) (w0:World) (S0:Bs) (l:List Asn) (R:Value→List Asn→Prop):Prop:=
  ∀(a:Act) (w:World),Holds T a→WS w0 S0 l w→∃(v:Value) (w':World) (l':List Asn),(execOp a.eval o).run P w= .ok (.value v) w'∧R v l'∧WS w0 S0 l' w'
def aF5 (P:Program) (o:Oper) (T:eR) (w0:World) (S0:Bs) (l:List Asn) (l':List Asn):Prop:=
  ∀(a:Act) (w:World),Holds T a→WS w0 S0 l w→∃(w':World),(execOp a.eval o).run P w= .ok .skip w'∧WS w0 S0 l' w'
def aHv (P:Program) (o:Oper) (T:eR) (f:FuncId) (args:Array Value):Prop:=∀(a:Act) (w:World),Holds T a→(execOp a.eval o).run P w= .ok (.enter f args) w

structure aA0 (P : Program) (N : Nat) (T : eR) (o : Oper) (F : Act → World → Prop) (F' : Act → World → Prop) : Prop where
  value:∀(a:Act) (w:World) (v:Value) (w':World),a.tmps.size=N→Holds T a→(execOp a.eval o).run P w= .ok (.value v) w'→F' (a.put o.dst v) w'→F a w
  skip:∀(a:Act) (w:World) (w':World),a.tmps.size=N→Holds T a→(execOp a.eval o).run P w= .ok .skip w'→F' (a.put o.dst undef) w'→F a w
  enter:∀(a:Act) (w:World) (f:FuncId) (args:Array Value) (w':World) (R:Value→World→Prop),a.tmps.size=N→Holds T a→(execOp a.eval o).run P w= .ok (.enter f args) w'→
    Calls P f args w' (fun e w''=>∃r,e= .returned r∧R r w'')→(∀r w'',R r w''→F' (a.put o.dst r) w'')→F a w

theorem wF {o : Oper} {F F' : Act → World → Prop} {Q : Exit → Act → World → Prop} (h : ∀ (a : Act) (w : World), a.tmps.size = N → Holds T a → o.wp P a w F' Q → F a w) : aA0 P N T o F F' where
  value a w v w' hN hT hr hk:=h a w hN hT (by unfold Oper.wp;rw [hr];exact hk)
  skip a w w' hN hT hr hk:=h a w hN hT (by unfold Oper.wp;rw [hr];exact hk)
  enter a w f args w' R hN hT hr hc hk:=h a w hN hT (by unfold Oper.wp;rw [hr];exact hc.mono fun e w'' ⟨r,he,hR⟩=>by subst he;exact hk r w'' hR)
theorem aE {ops:Array Oper}{o:Oper}{rest:List Oper} (hg:o.guard=none):aA0 P N T o (wpList P ops Q (o :: rest)) (wpList P ops Q rest):=
  wF (Q:=Q) fun a w _ _ h=>wpList_plain hg fun _ hK=>Oper.wp_mono hK h

theorem Y.q {o:Oper}{F F':Act→World→Prop}{d:Nat}{v:Value} (hG:aA0 P N T o F F') (hd:o.dst=some d) (hN:d<N) (hf:nG d T=true) (hq:eO P o T (WS w0 S0 l) v) (h:Y N w0 S0 F' ((d,v) :: T) l):Y N w0 S0 F T l:=by
  intro a w h1 h2 h3 h4
  refine hG.value a w v w h2 h3 (hq a w h3 h4) ?_
  rw [hd]
  exact h _ w (by rw [lC];exact h1) (by rw [nZ];exact h2) (h3.put (by omega) hf) h4
def okd (o:Oper) (N:Nat) (T:eR):Option Nat:=match o.dst with
  | some d=>cond (o.guard.isNone && Nat.blt d N && nG d T) (some d) none
  | none=>none
theorem Y.ql {ops:Array Oper}{o:Oper}{rest:List Oper}{d:Nat}{v:Value} (hk:okd o N T=some d) (hq:eO P o T (WS w0 S0 l) v) (h:Y N w0 S0 (wpList P ops Q rest) ((d,v) :: T) l):Y N w0 S0 (wpList P ops Q (o :: rest)) T l:=by
  unfold okd at hk
  cases hd:o.dst with
  | none=>rw [hd] at hk;cases hk
  | some d'=>
    rw [hd] at hk
    simp only at hk
    cases hc:(o.guard.isNone && Nat.blt d' N && nG d' T) with
    | false=>rw [hc] at hk;cases hk
    | true=>
      rw [hc] at hk
      obtain rfl:=Option.some.inj hk
      simp only [Bool.and_eq_true,Option.isNone_iff_eq_none] at hc
      exact Y.q (aE hc.1.1) hd (Nat.le_of_ble_eq_true hc.1.2) hc.2 hq h
theorem Y.e {o:Oper}{F F':Act→World→Prop}{d:Nat}{R:Value→List Asn→Prop} (hG:aA0 P N T o F F') (hd:o.dst=some d) (hN:d<N) (hf:nG d T=true) (he:Eff P o T w0 S0 l R) (h:∀v l',R v l'→Y N w0 S0 F' ((d,v) :: T) l'):Y N w0 S0 F T l:=by
  intro a w h1 h2 h3 h4
  obtain⟨v,w',l',hr,hR,hw⟩:=he a w h3 h4
  refine hG.value a w v w' h2 h3 hr ?_
  rw [hd]
  exact h v l' hR _ w' (by rw [lC];exact h1) (by rw [nZ];exact h2) (h3.put (by omega) hf) hw
theorem Y.es {o:Oper}{F F':Act→World→Prop}{l':List Asn} (hG:aA0 P N T o F F') (hd:o.dst=none) (he:aF5 P o T w0 S0 l l') (h:Y N w0 S0 F' T l'):Y N w0 S0 F T l:=by
  intro a w h1 h2 h3 h4
  obtain⟨w',hr,hw⟩:=he a w h3 h4
  refine hG.skip a w w' h2 h3 hr ?_
  rw [hd]
  exact h _ w' h1 h2 h3 hw
theorem WS.frame {lc lr:List Asn}{w:World} (h:WS w0 S0 (lc++lr) w):∃S1:Bs,cI lc w S1∧Tr w0 S0 w S1 lr∧∀w' l',WS w S1 l' w'→WS w0 S0 (l'++lr) w':=by
  obtain⟨S,hs,hb,hf⟩:=h
  obtain⟨S1,S2,h1,h2,a,b,d⟩:=hs.split
  have h2':=h2.lt
  have hw:∀b,FF w0 S0 b→FF w S1 b∧w.heap[b]? =w0.heap[b]? :=fun x hx=>⟨⟨Nat.lt_of_lt_of_le hx.1 hf.size,fun h=>(hb x (a x h)).elim hx.2 (fun h=>by have:=hx.1;omega)⟩,hf.block x hx.1 hx.2⟩
  refine⟨S1,h1,⟨fun{α K x cs} hr=>K.ro_up (K.ro_loc hr (fun b hb=>(hw b hb).2)) (fun b hb=>(hw b hb).1),fun{α K x cs l} ht=> ?_,⟨_,h2',fun b hb=>⟨hb.2,fun h=>d b h hb.1⟩⟩,hw⟩,fun w' l' ⟨S',hs',hb',hf'⟩=> ?_⟩
  · have := K.own_ro (show K.own w _ x cs from (h2'.take ht).head)
    exact K.ro_up this (fun b hb=>⟨hb.2,fun h=>d b h hb.1⟩)
  refine⟨fun x=>S' x∨(S2 x∧x<w.heap.size),?_,?_,?_⟩
  · refine hs'.app (h2'.loc (fun x hx => hf'.block x hx.2 (fun e => d x e hx.1))) (fun _ h => .inl h) (fun _ h => .inr h) (fun x hx hy => ?_)
    rcases hb' x hx with h | h
    · exact d x h hy.1
    · omega
  · intro x hx
    rcases hx with hx | hx
    · rcases hb' x hx with h | h
      · exact hb x (a x h)
      · exact .inr (Nat.le_trans hf.size h)
    · exact hb x (b x hx.1)
  · exact hf.trans hf' (fun x hx=>hb x (a x hx))
theorem Y.call {o : Oper} {F F' : Act → World → Prop} {d : Nat} {f : FuncId} {args : Array Value} {lc lr : List Asn} {R : Value → List Asn → Prop} (hG : aA0 P N T o F F') (hd : o.dst = some d) (hN : d < N) (hf : nG d T = true)
    (hc:aHv P o T f args) (hT:mT l lc lr) (ht:∀w S1,cI lc w S1→Tr w0 S0 w S1 lr→Calls P f args w (aI w S1 R)) (h:∀v l',R v l'→Y N w0 S0 F' ((d,v) :: T) (l'++lr)):Y N w0 S0 F T l:=by
  intro a w h1 h2 h3 h4
  have h5:=h4.takes hT
  obtain⟨S1,hs1,htr,hfr⟩:=h5.frame
  have hcall:=ht w S1 hs1 htr
  refine hG.enter a w f args w (fun r w''=>∃l',R r l'∧WS w S1 l' w'') h2 h3 (hc a w h3) (hcall.mono fun e w' ⟨r,l',he,hR,hw⟩=>⟨r,he,l',hR,hw⟩) ?_
  intro r w' ⟨l',hR,hw⟩
  rw [hd]
  exact h r l' hR _ w' (by rw [lC];exact h1) (by rw [nZ];exact h2) (h3.put (by omega) hf) (hfr w' l' hw)
end
end Go.Proofs.YtmejbfmhaoilmaaGreatDoor
/- What is proved: regions that draw their order, walked in one order that is picked and checked: what only reads is taken first; all else has its one place. No condition. -/
namespace Go.Proofs.YtmejbfmhaoilmaaGreatDoor
open Go Go.RowKit
set_option linter.unusedVariables false
set_option linter.unusedSimpArgs false

section
variable {P:Program}{ops:Array Oper}{md:Region.Mode}{S:World→Prop}{last:Nat}{Q:Exit→Act→World→Prop}
def wpL (P : Program) (md : Region.Mode) (ops : Array Oper) (Q : Exit → Act → World → Prop) (S : World → Prop) (last : Nat) : Nat → Array Bool → Act → World → Prop
  | 0,listed,a,w=>Region.ready md ops listed= []∧Q .normal a w
  | fuel+1,listed,a,w=>
    (Region.ready md ops listed= []→Q .normal a w)∧
    ∀i∈Region.ready md ops listed,wpOp P ops Q i (fun a' w'=>(i<last→S w')∧wpL P md ops Q S last fuel (listed.setIfInBounds i true) a' w') a w
theorem xO : ∀ (fuel : Nat) (listed : Array Bool) (a : Act) (w : World), wpL P md ops Q S last fuel listed a w → wpAny P md ops Q fuel listed a w
  | 0,_,_,_,h=>h
  | fuel+1,_,_,_,h=>⟨h.1,fun i hi=>wpOp_mono (fun a' w' h'=>xO fuel _ a' w' h'.2) (h.2 i hi)⟩
def aDq (md:Region.Mode) (ops:Array Oper) (last i:Nat):Bool:=
  (List.range ops.size).all fun j=>decide (j<last) || match ops[j]? with
  | none=>true
  | some o=>o.after.any fun e=>Region.binds md e && e.on == i
theorem aC3 {i j:Nat} (h:aDq md ops last i=true) {listed:Array Bool} (hl:¬j<last) (hr:j∈Region.ready md ops listed) (hi:i∈Region.ready md ops listed):False:=by
  obtain⟨_,o,ho,hall⟩:=mem_ready.1 hr
  obtain⟨hu,oi,hoi,_⟩:=mem_ready.1 hi
  have h:=List.all_eq_true.1 h j (List.mem_range.2 (Array.getElem?_eq_some_iff.1 ho).1)
  simp only [decide_eq_false hl,Bool.false_or,ho] at h
  obtain⟨e,he,hb⟩:=Array.any_eq_true'.1 h
  simp only [Bool.and_eq_true,beq_iff_eq] at hb
  have:=hall e he hb.1
  rw [hb.2] at this
  rcases Nat.lt_or_ge i listed.size with h' | h'
  · simp [h'] at hu this
    rw [hu] at this;cases this
  · simp [Array.getElem?_eq_none h'] at this
theorem aFw {i : Nat} {oi : Oper} {v : Value} (hi : ops[i]? = some oi) (hsel : ∀ (j : Nat) (o : Oper) cs b, ops[j]? = some o → o.op ≠ .select cs b)
    (hQ:∀c a w,Q (.panic c) (a.put oi.dst v) w→Q (.panic c) a w) (hlast:aDq md ops last i=true):
    ∀(fuel:Nat) (listed:Array Bool) (a:Act) (w:World),
      (∀j oj,ops[j]? =some oj→j≠i→listed.getD j true=false→(∀e∈oj.after,Region.binds md e=true→e.on≠i)→oi.apart ops oj=true)→
      i∈Region.ready md ops listed→YieldsIf P ops S oi v a→S w→
      wpL P md ops Q S last fuel (listed.setIfInBounds i true) (a.put oi.dst v) w→wpL P md ops Q S last (fuel+1) listed a w:=by
  intro fuel
  induction fuel with
  | zero=>
    intro listed a w _ hr hy hS H
    refine⟨fun h=>(by rw [h] at hr;cases hr),fun j hj=> ?_⟩
    by_cases hji:j=i
    · subst hji;exact hy.wpOp hi hS ⟨fun _=>hS,H⟩
    · have := ready_mono hj hji
      rw [H.1] at this
      cases this
  | succ fuel ih=>
    intro listed a w hfree hr hy hS H
    refine⟨fun h=>(by rw [h] at hr;cases hr),fun j hj=> ?_⟩
    by_cases hji:j=i
    · subst hji;exact hy.wpOp hi hS ⟨fun _=>hS,H⟩
    · have hjl : j < last := Classical.byContradiction fun e => aC3 hlast e hj hr
      have h1:=H.2 j (ready_mono hj hji)
      obtain⟨hjun,oj,hoj,hall⟩:=mem_ready.1 hj
      have hnot:∀e∈oj.after,Region.binds md e=true→e.on≠i:=fun e he hb heq=>by
        have h1:=hall e he hb
        have h0:=(mem_ready.1 hr).1
        rw [heq] at h1
        rcases Nat.lt_or_ge i listed.size with h' | h'
        · simp [h'] at h0 h1;rw [h0] at h1;cases h1
        · simp [Array.getElem?_eq_none h'] at h1
      have h2:=wpOp_putIf hoj (hfree j oj hoj hji hjun hnot) (fun cs b=>hsel i oi cs b hi) (fun cs b=>hsel j oj cs b hoj) hQ hy h1
      have hfree':∀k ok,ops[k]? =some ok→k≠i→(listed.setIfInBounds j true).getD k true=false→
          (∀e∈ok.after,Region.binds md e=true→e.on≠i)→oi.apart ops ok=true:=fun k ok hk hki hun hno=>by
        refine hfree k ok hk hki ?_ hno
        by_cases hjk:j=k
        · subst hjk;exact hjun
        · rw [getD_set_ne true hjk] at hun;exact hun
      refine wpOp_mono (fun a' w' h3=>⟨h3.2.1,ih (listed.setIfInBounds j true) a' w' hfree' (ready_mono hr (Ne.symm hji)) h3.1 (h3.2.1 hjl) ?_⟩) h2
      rw [Array.setIfInBounds_comm _ _ hji]
      exact h3.2.2
def aGe (md : Region.Mode) (ops : Array Oper) (last : Nat) : List (Nat × Bool) → Array Bool → Option (Array Bool)
  | [],listed=>some listed
  |(i,true) :: r,listed=>if aDq md ops last i && Region.free md ops listed i && (Region.ready md ops listed).contains i then aGe md ops last r (listed.setIfInBounds i true)else none
  |(i,false) :: r,listed=>if Region.ready md ops listed == [i]then aGe md ops last r (listed.setIfInBounds i true)else none
def aK9 (md:Region.Mode) (ops:Array Oper) (last:Nat) (sch:List (Nat×Bool)) (listed listed':Array Bool):Bool:=
  Region.noSelect ops && aGe md ops last sch listed == some listed'
def iI (P : Program) (ops : Array Oper) (Q : Exit → Act → World → Prop) (S : World → Prop) (last : Nat) (K : Act → World → Prop) : List (Nat × Bool) → Act → World → Prop
  | [],a,w=>K a w
  |(i,true) :: r,a,w=>∃(o:Oper) (v:Value),ops[i]? =some o∧YieldsIf P ops S o v a∧S w∧iI P ops Q S last K r (a.put o.dst v) w
  |(i,false) :: r,a,w=>wpOp P ops Q i (fun a' w'=>(i<last→S w')∧iI P ops Q S last K r a' w') a w
theorem sQ (hsel:∀(j:Nat) (o:Oper) cs b,ops[j]? =some o→o.op≠ .select cs b) (hQ:∀c a d v w,Q (.panic c) (Act.put a d v) w→Q (.panic c) a w) {listed':Array Bool}{n:Nat}:
    ∀(sch:List (Nat×Bool)) (listed:Array Bool) (a:Act) (w:World),aGe md ops last sch listed=some listed'→
      iI P ops Q S last (wpL P md ops Q S last n listed') sch a w→wpL P md ops Q S last (n+sch.length) listed a w
  | [],listed,a,w,hc,h=>by
    obtain rfl:=Option.some.inj hc
    exact h
  |(i,true) :: r,listed,a,w,hc,h=>by
    simp only [aGe] at hc
    split at hc
    · rename_i hcc
      simp only [Bool.and_eq_true] at hcc
      obtain⟨o,v,ho,hy,hS,hk⟩:=h
      exact aFw ho hsel (fun c a w=>hQ c a _ _ w) hcc.1.1 _ listed a w (Region.free_spec ho hcc.1.2) (by simpa using hcc.2) hy hS (sQ hsel hQ r _ _ w hc hk)
    · cases hc
  |(i,false) :: r,listed,a,w,hc,h=>by
    simp only [aGe] at hc
    split at hc
    · rename_i hcc
      have hr:Region.ready md ops listed= [i]:=by simpa using hcc
      refine⟨fun h0=>(by rw [hr] at h0;cases h0),fun j hj=> ?_⟩
      rw [hr] at hj
      obtain rfl:=List.mem_singleton.1 hj
      exact wpOp_mono (fun a' w' h3=>⟨h3.1,sQ hsel hQ r _ a' w' hc h3.2⟩) h
    · cases hc
end

section
variable {N:Nat}{w0:World}{S0:Bs}{F:Act→World→Prop}{T:eR}{l lk:List Asn}{P:Program}{Q:Exit→Act→World→Prop}{K:Act→World→Prop}{ops:Array Oper}{last:Nat}

theorem WS.drewn {w:World} (h:WS w0 S0 l w):WS w0 S0 l {w with drawn:=w.drawn+1}:=by
  obtain⟨S,hs,hb,hf⟩:=h
  exact⟨S,hs.loc (fun _ _=>rfl),hb,hf.os,hf.tape,hf.output,hf.size,hf.block⟩
theorem Y.a0 (lk : List Asn) (last : Nat) {id : Nat} {os : List Oper} (hm : P.follows .mixedOrders = true)
    (h:Y N w0 S0 (wpL P .any os.toArray (NoPanic Q) (WS w0 S0 lk) last os.length (Array.replicate os.length false)) T l):Y N w0 S0 ((Code.region id os.toArray true).wp P Q) T l:=by
  intro a w h1 h2 h3 h4
  refine wp_region_noPanic (wp_region_any hm ?_)
  have:=xO _ _ _ _ (h a {w with drawn:=w.drawn+1} h1 h2 h3 h4.drewn)
  simpa using this
theorem Y.av {md : Region.Mode} (sch : List (Nat × Bool)) (n : Nat) (listed' : Array Bool) {m : Nat} {listed : Array Bool} (hm : m = n + sch.length) (hc : aK9 md ops last sch listed listed' = true)
    (h:Y N w0 S0 (iI P ops (NoPanic Q) (WS w0 S0 lk) last (wpL P md ops (NoPanic Q) (WS w0 S0 lk) last n listed') sch) T l):Y N w0 S0 (wpL P md ops (NoPanic Q) (WS w0 S0 lk) last m listed) T l:=by
  subst hm
  simp only [aK9,Bool.and_eq_true,beq_iff_eq] at hc
  exact fun a w h1 h2 h3 h4=>sQ (Region.noSelect_spec hc.1) (fun _ _ _ _ _ h=>h) sch listed a w hc.2 (h a w h1 h2 h3 h4)
theorem Y.w (h:Y N w0 S0 K T l):Y N w0 S0 (iI P ops (NoPanic Q) (WS w0 S0 lk) last K []) T l:=h
theorem Y.af {md:Region.Mode}{m:Nat}{listed:Array Bool} (hr:(Region.ready md ops listed).isEmpty=true) (h:Y N w0 S0 (Q .normal) T l):Y N w0 S0 (wpL P md ops (NoPanic Q) (WS w0 S0 lk) last m listed) T l:=by
  have hr':Region.ready md ops listed= []:=by simpa using hr
  intro a w h1 h2 h3 h4
  have hq:=h a w h1 h2 h3 h4
  cases m with
  | zero=>exact⟨hr',hq⟩
  | succ m=>exact⟨fun _=>hq,fun i hi=>by rw [hr'] at hi;cases hi⟩
theorem vT {o:Oper} (hg:o.guard=none) (y:Nat→Option Bool):Region.wanted o y=true:=by simp [Region.wanted,hg]
theorem nX {ops:Array Oper}{j t:Nat}{v:Value} (hj:(ops[j]?).bind (·.dst)=some t) (ht:Get T (t,v)) {a:Act} (ha:Holds T a):yielded ops a.tmps j=(match v with | .bool b=>some b | _=>none):=by
  have h1:=ha _ ht.mem
  unfold yielded
  rw [hj]
  simp only [Option.bind_some,h1]
  cases v <;> rfl
theorem Y.al {s:Nat}{p:Prop} [Decidable p] {T':eR} (h:Er T (s,.bool (decide p)) T') (ht:p→Y N w0 S0 F ((s,.bool true) :: T') l) (hf:¬p→Y N w0 S0 F ((s,.bool false) :: T') l):Y N w0 S0 F T l:=by
  by_cases hp:p
  · exact Y.eq h (by rw [decide_eq_true hp]) (ht hp)
  · exact Y.eq h (by rw [decide_eq_false hp]) (hf hp)
theorem Y.an {s:Nat}{p:Prop} [Decidable p] {T':eR} (h:Er T (s,.bool (!decide p)) T') (ht:¬p→Y N w0 S0 F ((s,.bool true) :: T') l) (hf:p→Y N w0 S0 F ((s,.bool false) :: T') l):Y N w0 S0 F T l:=by
  by_cases hp:p
  · exact Y.eq h (by rw [decide_eq_true hp];rfl) (hf hp)
  · exact Y.eq h (by rw [decide_eq_false hp];rfl) (ht hp)
theorem Y.a2 {s:Nat}{b:Bool}{T':eR} (h:Er T (s,.bool b) T') (ht:b=true→Y N w0 S0 F ((s,.bool true) :: T') l) (hf:b=false→Y N w0 S0 F ((s,.bool false) :: T') l):Y N w0 S0 F T l:=by
  cases hb:b
  · exact Y.eq h (by rw [hb]) (hf hb)
  · exact Y.eq h (by rw [hb]) (ht hb)
theorem eB {o:Oper}{rest:List Oper}{j t:Nat}{b:Bool} (hg:o.guard=some (j,b)) (hj:(ops[j]?).bind (·.dst)=some t) (ht:Get T (t,.bool b)):aA0 P N T o (wpList P ops Q (o :: rest)) (wpList P ops Q rest):=
  wF (Q:=Q) fun a w _ h3 h=>wpList_step fun K' hK=>by
    have:Region.wanted o (yielded ops a.tmps)=true:=by simp only [Region.wanted,hg,nX hj ht h3,beq_self_eq_true]
    rw [if_pos this]
    exact Oper.wp_mono hK h
theorem Y.r {o : Oper} {rest : List Oper} {d j t : Nat} {b : Bool} {v : Value} (hg : o.guard = some (j, b)) (hj : (ops[j]?).bind (·.dst) = some t) (ht : Get T (t, v)) (hv : ((match v with | .bool b => some b | _ => none) == some b) = false)
    (hd:o.dst=some d) (hN:d<N) (hf:nG d T=true) (h:Y N w0 S0 (wpList P ops Q rest) ((d,undef) :: T) l):Y N w0 S0 (wpList P ops Q (o :: rest)) T l:=by
  intro a w h1 h2 h3 h4
  refine wpList_step fun K' hK=> ?_
  have:Region.wanted o (yielded ops a.tmps)=false:=by simp only [Region.wanted,hg,nX hj ht h3];exact hv
  rw [if_neg (by rw [this];exact Bool.false_ne_true),hd]
  exact hK _ _ (h _ w (by rw [lC];exact h1) (by rw [nZ];exact h2) (h3.put (by omega) hf) h4)
theorem Y.dq {i : Nat} {r : List (Nat × Bool)} {o : Oper} {d : Nat} {v : Value} (ho : ops[i]? = some o) (hg : o.guard = none) (hd : o.dst = some d) (hN : d < N) (hf : nG d T = true) (hk : Sb l lk) (hq : eO P o T (WS w0 S0 lk) v)
    (h:Y N w0 S0 (iI P ops (NoPanic Q) (WS w0 S0 lk) last K r) ((d,v) :: T) l):Y N w0 S0 (iI P ops (NoPanic Q) (WS w0 S0 lk) last K ((i,true) :: r)) T l:=by
  intro a w h1 h2 h3 h4
  refine⟨o,v,ho,.inl ⟨vT hg _,fun w' hw'=>hq a w' h3 hw'⟩,h4.sb hk,?_⟩
  rw [hd]
  exact h _ w (by rw [lC];exact h1) (by rw [nZ];exact h2) (h3.put (by omega) hf) h4
theorem Y.aj {i : Nat} {r : List (Nat × Bool)} {o : Oper} {d j t : Nat} {b : Bool} {v : Value} (ho : ops[i]? = some o) (hg : o.guard = some (j, b)) (hj : (ops[j]?).bind (·.dst) = some t) (ht : Get T (t, .bool b)) (hd : o.dst = some d) (hN : d < N) (hf : nG d T = true) (hk : Sb l lk) (hq : eO P o T (WS w0 S0 lk) v)
    (h:Y N w0 S0 (iI P ops (NoPanic Q) (WS w0 S0 lk) last K r) ((d,v) :: T) l):Y N w0 S0 (iI P ops (NoPanic Q) (WS w0 S0 lk) last K ((i,true) :: r)) T l:=by
  intro a w h1 h2 h3 h4
  refine⟨o,v,ho,.inl ⟨?_,fun w' hw'=>hq a w' h3 hw'⟩,h4.sb hk,?_⟩
  · simp only [Region.wanted,hg,nX hj ht h3,beq_self_eq_true]
  · rw [hd]
    exact h _ w (by rw [lC];exact h1) (by rw [nZ];exact h2) (h3.put (by omega) hf) h4
theorem Y.am {i : Nat} {r : List (Nat × Bool)} {o : Oper} {d j t : Nat} {b : Bool} {v : Value} (ho : ops[i]? = some o) (hg : o.guard = some (j, b)) (hj : (ops[j]?).bind (·.dst) = some t) (ht : Get T (t, v)) (hv : ((match v with | .bool b => some b | _ => none) == some b) = false)
    (hd:o.dst=some d) (hN:d<N) (hf:nG d T=true) (hk:Sb l lk)
    (h:Y N w0 S0 (iI P ops (NoPanic Q) (WS w0 S0 lk) last K r) ((d,undef) :: T) l):Y N w0 S0 (iI P ops (NoPanic Q) (WS w0 S0 lk) last K ((i,true) :: r)) T l:=by
  intro a w h1 h2 h3 h4
  refine⟨o,undef,ho,.inr ⟨?_,rfl⟩,h4.sb hk,?_⟩
  · simp only [Region.wanted,hg,nX hj ht h3];exact hv
  · rw [hd]
    exact h _ w (by rw [lC];exact h1) (by rw [nZ];exact h2) (h3.put (by omega) hf) h4
theorem aC {i:Nat}{r:List (Nat×Bool)}{o:Oper} (ho:ops[i]? =some o) (hg:o.guard=none):
    aA0 P N T o (iI P ops (NoPanic Q) (WS w0 S0 lk) last K ((i,false) :: r)) (fun a' w'=>(i<last→WS w0 S0 lk w')∧iI P ops (NoPanic Q) (WS w0 S0 lk) last K r a' w'):=
  wF (Q:=NoPanic Q) fun a w _ _ h=>by
    show wpOp P ops (NoPanic Q) i _ a w
    unfold wpOp
    simp only [ho,vT hg,if_true]
    exact .inl h
theorem zQ {i:Nat}{r:List (Nat×Bool)}{o:Oper}{j t:Nat}{b:Bool} (ho:ops[i]? =some o) (hg:o.guard=some (j,b)) (hj:(ops[j]?).bind (·.dst)=some t) (ht:Get T (t,.bool b)):
    aA0 P N T o (iI P ops (NoPanic Q) (WS w0 S0 lk) last K ((i,false) :: r)) (fun a' w'=>(i<last→WS w0 S0 lk w')∧iI P ops (NoPanic Q) (WS w0 S0 lk) last K r a' w'):=
  wF (Q:=NoPanic Q) fun a w _ h3 h=>by
    show wpOp P ops (NoPanic Q) i _ a w
    unfold wpOp
    simp only [ho,Region.wanted,hg,nX hj ht h3,beq_self_eq_true,if_true]
    exact .inl h
theorem Y.ar {md : Region.Mode} {m : Nat} {listed : Array Bool} {i j : Nat} (hr : (Region.ready md ops listed == [i, j]) = true)
    (hi:Y N w0 S0 (iI P ops (NoPanic Q) (WS w0 S0 lk) last (wpL P md ops (NoPanic Q) (WS w0 S0 lk) last m (listed.setIfInBounds i true)) [(i,false)]) T l)
    (hj:Y N w0 S0 (iI P ops (NoPanic Q) (WS w0 S0 lk) last (wpL P md ops (NoPanic Q) (WS w0 S0 lk) last m (listed.setIfInBounds j true)) [(j,false)]) T l):
    Y N w0 S0 (wpL P md ops (NoPanic Q) (WS w0 S0 lk) last (m+1) listed) T l:=fun a w h1 h2 h3 h4=>by
  have e:=eq_of_beq hr
  refine⟨fun h0=>(by rw [e] at h0;cases h0),fun k hk=> ?_⟩
  rw [e] at hk
  rcases List.mem_cons.1 hk with rfl | hk
  · exact hi a w h1 h2 h3 h4
  · obtain rfl := List.mem_singleton.1 hk
    exact hj a w h1 h2 h3 h4
theorem Y.sk {i:Nat} (hs:Sb l lk) (h:Y N w0 S0 F T l):Y N w0 S0 (fun a' w'=>(i<last→WS w0 S0 lk w')∧F a' w') T l:=
  fun a w h1 h2 h3 h4=>⟨fun _=>h4.sb hs,h a w h1 h2 h3 h4⟩
theorem Y.sl {i:Nat} (hs:Nat.ble last i=true) (h:Y N w0 S0 F T l):Y N w0 S0 (fun a' w'=>(i<last→WS w0 S0 lk w')∧F a' w') T l:=
  fun a w h1 h2 h3 h4=>⟨fun hn=>absurd (Nat.le_of_ble_eq_true hs) (by omega),h a w h1 h2 h3 h4⟩
end
end Go.Proofs.YtmejbfmhaoilmaaGreatDoor
/- What is proved: what each kind of operation does, as a rule of the small logic of Core. No condition. -/
namespace Go.Proofs.YtmejbfmhaoilmaaGreatDoor
open Go Go.RowKit
set_option linter.unusedVariables false
set_option linter.unusedSimpArgs false

theorem aA2 (a b:Int):(a == b)=decide (a=b):=by rw [Bool.eq_iff_iff];simp
theorem wr {a c:Int} (h:a=c) (h1: -9223372036854775808≤c) (h2:c≤9223372036854775807):IntKind.i64.wrap a=c:=by rw [IntKind.wrap_i64];omega
theorem iG (s:ByteArray):s.data.toList.length=s.size:=by rw [Array.length_toList];rfl
theorem aNf:IntKind.i64.max=9223372036854775807:=by decide
section
variable {P:Program}{T:eR}{Wd:World→Prop}{o:Oper}{N:Nat}{w0:World}{S0:Bs}{l lk:List Asn}

theorem aR {x:Operand}{v:Value} (ho:o.op= .move x) (hx:Val T x v):eO P o T Wd v:=fun a w ha _=>by
  simp only [execOp,ho,hx a ha];rfl
theorem aA {x:Operand}{v:Value} (ho:o.op= .assign x) (hx:Val T x v):eO P o T Wd v:=fun a w ha _=>by
  simp only [execOp,ho,hx a ha];rfl
theorem bI {c x y:Operand}{v:Value} (ho:o.op= .pick c x y) (hc:Val T c (.bool true)) (hx:Val T x v):eO P o T Wd v:=fun a w ha _=>by
  simp only [execOp,ho,hc a ha,hx a ha];rfl
theorem bH {c x y:Operand}{u:Value} (ho:o.op= .pick c x y) (hc:Val T c (.bool false)) (hy:Val T y u):eO P o T Wd u:=fun a w ha _=>by
  simp only [execOp,ho,hc a ha,hy a ha];rfl
theorem dZ {x:Operand}{ad:Addr} (ho:o.op= .nilCheck x) (hx:Val T x (.pointer (some ad))):eO P o T Wd (.pointer (some ad)):=fun a w ha _=>by
  simp only [execOp,ho,hx a ha];rfl
theorem fF {x:Operand}{t:TypeId}{b:Bool} (ho:o.op= .unOp .not t x) (hx:Val T x (.bool b)):eO P o T Wd (.bool (!b)):=fun a w ha _=>by
  simp only [execOp,ho,hx a ha];rfl
section
variable {x y:Operand}{t t':TypeId}{k:IntKind}{a b:Int}
theorem bN {c:Int} (ho:o.op= .binOp .add t x y t') (hx:Val T x (.int k a)) (hy:Val T y (.int k b)) (hc:k.wrap (a+b)=c):eO P o T Wd (.int k c):=fun a' w ha _=>by
  simp only [execOp,ho,hx a' ha,hy a' ha];simp [eqGuard,binOp,Op.intArith,hc]
theorem iT {c:Int} (ho:o.op= .binOp .sub t x y t') (hx:Val T x (.int k a)) (hy:Val T y (.int k b)) (hc:k.wrap (a - b)=c):eO P o T Wd (.int k c):=fun a' w ha _=>by
  simp only [execOp,ho,hx a' ha,hy a' ha];simp [eqGuard,binOp,Op.intArith,hc]
theorem rH {c:Int} (ho:o.op= .binOp .mul t x y t') (hx:Val T x (.int k a)) (hy:Val T y (.int k b)) (hc:k.wrap (a * b)=c):eO P o T Wd (.int k c):=fun a' w ha _=>by
  simp only [execOp,ho,hx a' ha,hy a' ha];simp [eqGuard,binOp,Op.intArith,hc]
theorem aGp {c:Int} (ho:o.op= .binOp .quo t x y t') (hx:Val T x (.int k a)) (hy:Val T y (.int k b)) (hb:b≠0) (hc:k.wrap (a.tdiv b)=c):eO P o T Wd (.int k c):=fun a' w ha _=>by
  simp only [execOp,ho,hx a' ha,hy a' ha];simp [eqGuard,binOp,Op.intDiv,hc,hb]
theorem xT {c:Int} (ho:o.op= .binOp .rem t x y t') (hx:Val T x (.int k a)) (hy:Val T y (.int k b)) (hb:b≠0) (hc:a.tmod b=c):eO P o T Wd (.int k c):=fun a' w ha _=>by
  simp only [execOp,ho,hx a' ha,hy a' ha];simp [eqGuard,binOp,Op.intDiv,hc,hb]
theorem dA (ho:o.op= .binOp .lss t x y t') (hx:Val T x (.int k a)) (hy:Val T y (.int k b)):eO P o T Wd (.bool (decide (a<b))):=fun a' w ha _=>by
  simp only [execOp,ho,hx a' ha,hy a' ha];simp [eqGuard,binOp,Op.intCmp]
theorem aB0 (ho:o.op= .binOp .leq t x y t') (hx:Val T x (.int k a)) (hy:Val T y (.int k b)):eO P o T Wd (.bool (decide (a≤b))):=fun a' w ha _=>by
  simp only [execOp,ho,hx a' ha,hy a' ha];simp [eqGuard,binOp,Op.intCmp]
theorem fI (ho:o.op= .binOp .gtr t x y t') (hx:Val T x (.int k a)) (hy:Val T y (.int k b)):eO P o T Wd (.bool (decide (b<a))):=fun a' w ha _=>by
  simp only [execOp,ho,hx a' ha,hy a' ha];simp [eqGuard,binOp,Op.intCmp]
theorem nH (ho:o.op= .binOp .geq t x y t') (hx:Val T x (.int k a)) (hy:Val T y (.int k b)):eO P o T Wd (.bool (decide (b≤a))):=fun a' w ha _=>by
  simp only [execOp,ho,hx a' ha,hy a' ha];simp [eqGuard,binOp,Op.intCmp]
theorem bU (ho:o.op= .binOp .eql t x y t') (hx:Val T x (.int k a)) (hy:Val T y (.int k b)):eO P o T Wd (.bool (decide (a=b))):=fun a' w ha _=>by
  simp only [execOp,ho,hx a' ha,hy a' ha];simp [eqGuard,binOp,Op.intCmp,aA2]
theorem bW (ho:o.op= .binOp .neq t x y t') (hx:Val T x (.int k a)) (hy:Val T y (.int k b)):eO P o T Wd (.bool (!decide (a=b))):=fun a' w ha _=>by
  simp only [execOp,ho,hx a' ha,hy a' ha];simp [eqGuard,binOp,Op.intCmp,bne,aA2]
theorem aC6 {d s:TypeId}{u:TypeDesc}{c:Int}{k':IntKind} (ho:o.op= .convert s d x) (hx:Val T x (.int k a)) (hs:P.underlying s=some u) (hd:P.underlying d=some (.int k')) (hc:k'.wrap a=c):eO P o T Wd (.int k' c):=fun a' w ha _=>by
  simp only [execOp,ho,hx a' ha];simp [convert,run_underlying hs,run_underlying hd,Conv.intToInt,hc]
end
section
variable {x y:Operand}{t t':TypeId}{s u:ByteArray}
theorem sU (ho:o.op= .binOp .eql t x y t') (hx:Val T x (.string s)) (hy:Val T y (.string u)):eO P o T Wd (.bool (decide (s=u))):=fun a' w ha _=>by
  have e:(s.toList == u.toList)=decide (s=u):=by
    rw [ByteArray.toList_eq,ByteArray.toList_eq,Bool.eq_iff_iff]
    simp only [beq_iff_eq,decide_eq_true_eq]
    constructor
    · intro h;cases s;cases u;simp_all
    · intro h;rw [h]
  simp only [execOp,ho,hx a' ha,hy a' ha];simp [eqGuard,binOp,Op.stringOp,e]
def sLt (s u:ByteArray):Bool:=Op.bytesLess s.toList u.toList
theorem aLm (ho:o.op= .binOp .lss t x y t') (hx:Val T x (.string s)) (hy:Val T y (.string u)):eO P o T Wd (.bool (sLt s u)):=fun a' w ha _=>by
  simp only [execOp,ho,hx a' ha,hy a' ha];simp [eqGuard,binOp,Op.stringOp,sLt]
theorem aKo (ho:o.op= .binOp .geq t x y t') (hx:Val T x (.string s)) (hy:Val T y (.string u)):eO P o T Wd (.bool (!sLt s u)):=fun a' w ha _=>by
  simp only [execOp,ho,hx a' ha,hy a' ha];simp [eqGuard,binOp,Op.stringOp,sLt]
theorem aK8 (ho:o.op= .binOp .leq t x y t') (hx:Val T x (.string s)) (hy:Val T y (.string u)):eO P o T Wd (.bool (sLt s u || decide (s=u))):=fun a' w ha _=>by
  have e:(s.toList == u.toList)=decide (s=u):=by
    rw [ByteArray.toList_eq,ByteArray.toList_eq,Bool.eq_iff_iff]
    simp only [beq_iff_eq,decide_eq_true_eq]
    constructor
    · intro h;cases s;cases u;simp_all
    · intro h;rw [h]
  simp only [execOp,ho,hx a' ha,hy a' ha];simp [eqGuard,binOp,Op.stringOp,sLt,e]
theorem wT (ho:o.op= .binOp .add t x y t') (hx:Val T x (.string s)) (hy:Val T y (.string u)) (hb:s.size+u.size≤9223372036854775807):eO P o T Wd (.string (s++u)):=fun a' w ha _=>by
  simp only [execOp,ho,hx a' ha,hy a' ha]
  simp [eqGuard,binOp,Op.stringOp,aNf]
  omega
theorem lZ (ho:o.op= .call {callee:= .builtin .len,args:= #[x],argTypes:= #[t]}) (ht:P.underlying t=some .string) (hx:Val T x (.string s)):eO P o T Wd (.int .i64 s.size):=fun a w ha _=>by
  simp only [execOp,ho]
  simp [resolve,hx a ha,invoke,builtin,Builtin.len_,run_underlying ht,goInt]
theorem mI {k:IntKind}{i:Int}{n:Nat}{b:UInt8} (ho:o.op= .index t x y) (ht:P.underlying t=some .string) (hx:Val T x (.string s)) (hy:Val T y (.int k i)) (hi:i=n) (hb:s.data.toList[n]? =some b):eO P o T Wd (.int .u8 b.toNat):=fun a w ha _=>by
  subst hi
  have hlt:n<s.size:=by
    have:=(List.getElem?_eq_some_iff.1 hb).1
    simpa using this
  have hg:s[n]? =some b:=by
    rw [ByteArray.getElem?_lt' s n hlt]
    have h2:=(List.getElem?_eq_some_iff.1 hb).2
    congr 1
  simp only [execOp,ho,hx a ha,hy a ha]
  simp [Instr.index,asIntOf,run_underlying ht,hg]
theorem rO {lo hi : Option Operand} {a b : Nat} (ho : o.op = .slice t x lo hi none) (ht : P.underlying t = some .string) (hx : Val T x (.string s))
    (hlo:(lo=none∧a=0)∨∃z k,lo=some z∧Val T z (.int k (a:Int))) (hhi:(hi=none∧b=s.size)∨∃z k,hi=some z∧Val T z (.int k (b:Int))) (h1:a≤b) (h2:b≤s.size):eO P o T Wd (.string (s.extract a b)):=fun ac w ha _=>by
  simp only [execOp,ho,hx ac ha]
  rcases hlo with ⟨rfl,rfl⟩ |⟨z,k,rfl,hz⟩ <;> rcases hhi with ⟨rfl,rfl⟩ |⟨z',k',rfl,hz'⟩
  · simp [Instr.sliceAt,Instr.slice,run_underlying ht,Instr.sliceBounds]
  · simp [Instr.sliceAt,Instr.slice,run_underlying ht,Instr.sliceBounds,Instr.sliceBound,hz' ac ha,asIntOf,h2]
  · simp [Instr.sliceAt,Instr.slice,run_underlying ht,Instr.sliceBounds,Instr.sliceBound,hz ac ha,asIntOf,h1]
  · simp [Instr.sliceAt,Instr.slice,run_underlying ht,Instr.sliceBounds,Instr.sliceBound,hz ac ha,hz' ac ha,asIntOf,h1,h2]
end
theorem aAy {t:TypeId} (ht:P.underlying t=some .bool) (d:Nat) (a b:Bool) (w:World):(Op.equalIn (d+1) t (.bool a) (.bool b)).run P w= .ok (a == b) w:=by
  simp [Op.equalIn,run_underlying ht]
theorem aKq {x y:Operand}{t t':TypeId}{a b:Bool} (ho:o.op= .binOp .neq t x y t') (ht:P.underlying t=some .bool) (hx:Val T x (.bool a)) (hy:Val T y (.bool b)):eO P o T Wd (.bool (!(a == b))):=fun a' w ha _=>by
  have e:(binOp .neq t (.bool a) (.bool b)).run P w= .ok (.bool (!(a == b))) w:=by
    simp only [binOp];simp [Op.equal,Op.maxDepth,aAy ht 9999 a b w]
  simp only [execOp,ho,hx a' ha,hy a' ha];simp [eqGuard,e]
section
variable {x y:Operand}{t t':TypeId}{A:Option Addr}{n c:Nat}
theorem bD {e:TypeId} (ho:o.op= .call {callee:= .builtin .len,args:= #[x],argTypes:= #[t]}) (ht:P.underlying t=some (.slice e)) (hx:Val T x (.slice A n c)):eO P o T Wd (.int .i64 n):=fun a w ha _=>by
  simp only [execOp,ho]
  simp [resolve,hx a ha,invoke,builtin,Builtin.len_,run_underlying ht,goInt]
theorem aB {e:TypeId}{sz:Nat}{ad:Addr}{k:IntKind}{i:Int}{j:Nat} (ho:o.op= .indexAddr t x y) (ht:P.underlying t=some (.slice e)) (he:(P.info? e).map (·.size)=some sz) (hx:Val T x (.slice (some ad) n c)) (hy:Val T y (.int k i)) (hi:i=j) (hj:j<n):
    eO P o T Wd (.pointer (some (ad.add (j * sz)))):=fun a w ha _=>by
  subst hi
  obtain⟨i0,h1,h2⟩:=Option.map_eq_some_iff.1 he
  simp only [execOp,ho,hx a ha,hy a ha]
  simp [Instr.indexAt,asIntOf,run_underlying ht,sizeOf,typeInfo,h1,h2,hj]
theorem aD9 {e : TypeId} {sz : Nat} {lo hi : Option Operand} {a b : Nat} (ho : o.op = .slice t x lo hi none) (ht : P.underlying t = some (.slice e)) (he : (P.info? e).map (·.size) = some sz) (hx : Val T x (.slice A n c))
    (hlo:(lo=none∧a=0)∨∃z k,lo=some z∧Val T z (.int k (a:Int))) (hhi:(hi=none∧b=n)∨∃z k,hi=some z∧Val T z (.int k (b:Int))) (h1:a≤b) (h2:b≤c):
    eO P o T Wd (.slice (if c=a then A else A.map (·.add (a * sz))) (b - a) (c - a)):=fun ac w ha _=>by
  obtain⟨i0,g1,g2⟩:=Option.map_eq_some_iff.1 he
  simp only [execOp,ho,hx ac ha]
  rcases hlo with ⟨rfl,rfl⟩ |⟨z,k,rfl,hz⟩ <;> rcases hhi with ⟨rfl,rfl⟩ |⟨z',k',rfl,hz'⟩
  · simp [Instr.sliceAt,Instr.slice,run_underlying ht,Instr.sliceBounds,sizeOf,typeInfo,g1,g2]
  · simp [Instr.sliceAt,Instr.slice,run_underlying ht,Instr.sliceBounds,Instr.sliceBound,hz' ac ha,asIntOf,h2,sizeOf,typeInfo,g1,g2]
  · simp [Instr.sliceAt,Instr.slice,run_underlying ht,Instr.sliceBounds,Instr.sliceBound,hz ac ha,asIntOf,h1,sizeOf,typeInfo,g1,g2]
  · simp [Instr.sliceAt,Instr.slice,run_underlying ht,Instr.sliceBounds,Instr.sliceBound,hz ac ha,hz' ac ha,asIntOf,h1,h2,sizeOf,typeInfo,g1,g2]
theorem aB7 {e:TypeId} (ht:P.underlying t=some (.slice e)) (d:Nat) (w:World):(Op.equalIn (d+1) t (.slice A n c) (.slice none 0 0)).run P w= .ok A.isNone w:=by
  cases A <;> simp [Op.equalIn,run_underlying ht]
theorem aJe {e:TypeId} (ho:o.op= .binOp .eql t x y t') (ht:P.underlying t=some (.slice e)) (hx:Val T x (.slice A n c)) (hy:Val T y (.slice none 0 0)):eO P o T Wd (.bool A.isNone):=fun a' w ha _=>by
  have h:(binOp .eql t (.slice A n c) (.slice none 0 0)).run P w= .ok (.bool A.isNone) w:=by
    simp only [binOp];simp [Op.equal,Op.maxDepth,aB7 ht 9999 w]
  simp only [execOp,ho,hx a' ha,hy a' ha];simp [eqGuard,h]
end
theorem aN {x : Operand} {s : TypeId} {f : Nat} {ad : Addr} {off : Nat} (ho : o.op = .fieldAddr s x f) (hx : Val T x (.pointer (some ad)))
    (hs:∀w,(Instr.fieldAt s (.pointer (some ad)) f).run P w= .ok (.pointer (some (ad.add off))) w):eO P o T Wd (.pointer (some (ad.add off))):=fun a w ha _=>by
  simp only [execOp,ho,hx a ha];simp [hs w]
theorem tY {x : Operand} {s : TypeId} {f : Nat} {ad : Addr} {m off k : Nat} (ho : o.op = .fieldAddr s x f) (hx : Val T x (.pointer (some (ad.add m))))
    (hs:∀w,(Instr.fieldAt s (.pointer (some (ad.add m))) f).run P w= .ok (.pointer (some ((ad.add m).add off))) w) (hk:m+off=k):eO P o T Wd (.pointer (some (ad.add k))):=fun a w ha _=>by
  subst hk
  simp only [execOp,ho,hx a ha];simp [hs w,jA]
theorem bF {x:Operand}{i:Nat}{vs:Array Value}{v:Value} (ho:o.op= .extract x i) (hx:Val T x (.tuple vs)) (hv:vs[i]? =some v):eO P o T Wd v:=fun a w ha _=>by
  simp only [execOp,ho,hx a ha];simp [Instr.extract,hv]
theorem bE {f : FuncId} {fn : Func} {as_ : Array Operand} {ts : Array TypeId} {args : Array Value} (ho : o.op = .call { callee := .value (.func f), args := as_, argTypes := ts }) (hf : P.funcs[f]? = some fn) (hb : fn.body.isSome = true) (hn : (fn.name == "runtime.NumGoroutine") = false)
    (ha:∀a:Act,Holds T a→as_.map a.eval=args):aHv P o T f args:=fun a w hT=>by
  have e1:¬fn.body=none:=by intro h;rw [h] at hb;cases hb
  have e2:¬fn.name= "runtime.NumGoroutine" :=by simpa using hn
  simp only [execOp,ho]
  simp [e2,resolve,ha a hT,Act.eval,Deferred.ofValue,invoke,callFunc,program,Sem.run,hf,e1]
theorem aEi {x : Operand} {f : FuncId} {fn : Func} {as_ : Array Operand} {ts : Array TypeId} {args us : Array Value} (ho : o.op = .call { callee := .value x, args := as_, argTypes := ts }) (hx : Val T x (.func (.func f) #[] us)) (hf : P.funcs[f]? = some fn) (hb : fn.body.isSome = true) (hn : (fn.name == "runtime.NumGoroutine") = false)
    (ha:∀a:Act,Holds T a→as_.map a.eval=args):aHv P o T f (args++us):=fun a w hT=>by
  have e1:¬fn.body=none:=by intro h;rw [h] at hb;cases hb
  have e2:¬fn.name= "runtime.NumGoroutine" :=by simpa using hn
  simp only [execOp,ho]
  simp [e2,resolve,ha a hT,hx a hT,Deferred.ofValue,invoke,callFunc,program,Sem.run,hf,e1]
theorem aMd:∀a:Act,Holds T a→(#[]:Array Operand).map a.eval= #[]:=fun _ _=>by simp
theorem bG {x:Operand}{v:Value} (h:Val T x v):∀a:Act,Holds T a→ #[x].map a.eval= #[v]:=fun a ha=>by simp [h a ha]
theorem aS {x y:Operand}{v u:Value} (h:Val T x v) (k:Val T y u):∀a:Act,Holds T a→ #[x,y].map a.eval= #[v,u]:=fun a ha=>by simp [h a ha,k a ha]
theorem eL {x y z:Operand}{v u r:Value} (h:Val T x v) (k:Val T y u) (j:Val T z r):∀a:Act,Holds T a→ #[x,y,z].map a.eval= #[v,u,r]:=fun a ha=>by simp [h a ha,k a ha,j a ha]
theorem pD {x y z q:Operand}{v u r s:Value} (h:Val T x v) (k:Val T y u) (j:Val T z r) (i:Val T q s):∀a:Act,Holds T a→ #[x,y,z,q].map a.eval= #[v,u,r,s]:=fun a ha=>by simp [h a ha,k a ha,j a ha,i a ha]
theorem aMo {x y z q p:Operand}{v u r s t:Value} (h:Val T x v) (k:Val T y u) (j:Val T z r) (i:Val T q s) (g:Val T p t):∀a:Act,Holds T a→ #[x,y,z,q,p].map a.eval= #[v,u,r,s,t]:=fun a ha=>by simp [h a ha,k a ha,j a ha,i a ha,g a ha]
end
end Go.Proofs.YtmejbfmhaoilmaaGreatDoor
/- What is proved: operations that read and write memory, as rules of the small logic of Core. No condition. -/
namespace Go.Proofs.YtmejbfmhaoilmaaGreatDoor
open Go Go.RowKit
set_option linter.unusedVariables false
set_option linter.unusedSimpArgs false

def aJj (d:TypeDesc):Bool:=match d with | .struct _ | .array _ _=>true | _=>false
theorem rS {P:Program}{t:TypeId}{d:TypeDesc} (h:P.underlying t=some d) (w:World):(isAgg t).run P w= .ok (aJj d) w:=by
  unfold isAgg
  rw [Sem.run_bind,run_underlying h w]
  cases d <;> simp [aJj]
def eE (P:Program) (t:TypeId) (b:Bool):Prop:=(P.underlying t).map aJj=some b
theorem eE.ex {P:Program}{t:TypeId}{b:Bool} (h:eE P t b):∃d,P.underlying t=some d∧aJj d=b:=Option.map_eq_some_iff.1 h
def aMq (P:Program) (t:TypeId):Array Field:=match P.underlying t with | some (.struct fs)=>fs | _=> #[]
theorem jN (g j:Nat):(⟨g,0,none⟩:Addr).add j=⟨g,j,none⟩:=by unfold Addr.add;split <;> simp_all
section
variable {P:Program}{T:eR}{Wd:World→Prop}{o:Oper}{N:Nat}{w0:World}{S0:Bs}{l l' lk:List Asn}

theorem qJ {w:World}{S:Bs}{g e sz c:Nat}{fl:List Value}{i:Nat}{v:Value} (h:(bV g e sz c fl).p w S) (hv:fl[i]? =some v):w.cell? ⟨g,i,none⟩=some v:=by
  obtain⟨_,cur,h1,h2,h3,h4⟩:=h
  rw [cell_of_row w g i cur e (0,0) h1]
  rw [←h4,List.getElem?_take] at hv
  split at hv
  · simpa using hv
  · cases hv
theorem WS.g {g e sz c:Nat}{fl:List Value}{i:Nat}{v:Value} (ht:fG l (bV g e sz c fl) l') (hv:fl[i]? =some v):∀w,WS w0 S0 l w→w.cell? ((⟨g,0,none⟩:Addr).add i)=some v:=fun w hw=>by
  obtain⟨S,hs,_,_⟩:=hw.take ht
  rw [jN]
  exact qJ hs.head hv
theorem WS.u {g e sz c:Nat}{fl cs:List Value}{off:Nat} (ht:fG l (bV g e sz c fl) l') (hv:∀i u,cs[i]? =some u→fl[off+i]? =some u):∀w,WS w0 S0 l w→∀i u,cs[i]? =some u→w.cell? (((⟨g,0,none⟩:Addr).add off).add i)=some u:=fun w hw i u hu=>by
  rw [jA]
  exact WS.g ht (hv i u hu) w hw
theorem WS.ctx {ad:Addr}{v:Value} (hF:FF w0 S0 ad.block) (hc:w0.cell? ad=some v):∀w,WS w0 S0 l w→w.cell? ad=some v:=fun w hw=>by
  obtain⟨S,_,_,hf⟩:=hw
  exact(tP (hf.block _ hF.1 hF.2)).trans hc
theorem WS.y {ad:Addr}{cs:List Value} (hF:FF w0 S0 ad.block) (hc:∀i u,cs[i]? =some u→w0.cell? (ad.add i)=some u):∀w,WS w0 S0 l w→∀i u,cs[i]? =some u→w.cell? (ad.add i)=some u:=
  fun w hw i u hu=>WS.ctx (by rw [lQ];exact hF) (hc i u hu) w hw

theorem aM {x:Operand}{t:TypeId}{ad:Addr}{v:Value} (ho:o.op= .load t x) (hg:eE P t false) (hx:Val T x (.pointer (some ad))) (hc:∀w,Wd w→w.cell? ad=some v):eO P o T Wd v:=fun a w ha hw=>by
  obtain⟨d,ht,hd⟩:=hg.ex
  have hag:=rS ht w
  rw [hd] at hag
  simp only [execOp,ho,hx a ha]
  simp [Instr.loadAt,Instr.sureAddr,loadVar,Sem.run_bind,hag,load,Sem.run,hc w hw]
theorem tI {x : Operand} {t : TypeId} {ad : Addr} {cs : List Value} (ho : o.op = .load t x) (hg : eE P t true) (hi : (P.info? t).map (·.size) = some cs.length) (hx : Val T x (.pointer (some ad)))
    (hc:∀w,Wd w→∀i u,cs[i]? =some u→w.cell? (ad.add i)=some u):eO P o T Wd (.agg cs.toArray):=fun a w ha hw=>by
  obtain⟨d,ht,hd⟩:=hg.ex
  have hag:=rS ht w
  rw [hd] at hag
  obtain⟨i0,h1,h2⟩:=Option.map_eq_some_iff.1 hi
  have hl:=run_loadCells_list (P:=P) w ad cs (hc w hw)
  simp only [execOp,ho,hx a ha]
  simp [Instr.loadAt,Instr.sureAddr,loadVar,Sem.run_bind,hag,sizeOf,typeInfo,h1,h2,hl]

inductive mG : List Value → Nat → Value → List Value → Prop
  | z {u v:Value}{l:List Value}:mG (u :: l) 0 v (v :: l)
  | s {u v:Value}{l l':List Value}{n:Nat}:mG l n v l'→mG (u :: l) (n+1) v (u :: l')
inductive tR : List Value → Nat → List Value → List Value → Prop
  | n {l:List Value}{i:Nat}:tR l i [] l
  | c {l l1 l2:List Value}{i:Nat}{v:Value}{vs:List Value}:mG l i v l1→tR l1 (i+1) vs l2→tR l i (v :: vs) l2
theorem mG.eq {l:List Value}{n:Nat}{v:Value}{l':List Value} (h:mG l n v l'):l'=l.set n v∧n<l.length:=by
  induction h with
  | z=>simp
  | s _ ih=>obtain⟨rfl,h⟩:=ih;simp [h]
def lX (fl:List Value) (off:Nat) (cs:List Value):List Value:=fl.take off++cs++fl.drop (off+cs.length)
theorem mM {fl:List Value}{off:Nat}{cs:List Value} (h:off+cs.length≤fl.length):(lX fl off cs).length=fl.length:=by
  simp only [lX,List.length_append,List.length_take,List.length_drop];omega
theorem xL {L cs:List Value}{off n:Nat} (h1:off+cs.length≤n) (h2:n≤L.length):(L.take off++cs++L.drop (off+cs.length)).take n=lX (L.take n) off cs:=by
  have hA:(L.take off++cs).length=off+cs.length:=by simp;omega
  unfold lX
  rw [List.take_append,List.take_of_length_le (by omega),hA,List.take_take,Nat.min_eq_left (by omega),List.drop_take]
theorem tR.eq {l:List Value}{n:Nat}{vs l':List Value} (h:tR l n vs l') (hb:n+vs.length≤l.length):l'=lX l n vs:=by
  induction h with
  | n=>simp [lX]
  | @c l l1 l2 i v vs h1 h2 ih=>
    obtain⟨rfl,hi⟩:=h1.eq
    rw [ih (by simp at hb ⊢;omega)]
    simp only [lX,List.length_cons]
    apply List.ext_getElem?
    intro j
    by_cases hj:j<i
    · simp [List.getElem?_append,List.getElem?_take,hj,Nat.ne_of_gt hj,Nat.min_def,show i≤l.length by omega,show i+1≤l.length by omega,show j<i+1 by omega]
    · simp only [List.getElem?_append, List.length_append, List.length_take, List.length_set, List.length_cons, Nat.min_def, show i ≤ l.length by omega, show i + 1 ≤ l.length by omega, if_true]
      by_cases hj2:j=i
      · subst hj2
        simp [List.getElem?_take,show j<j+1+vs.length by omega,show j<l.length from hi]
      · have e1 : ¬ j < i + 1 := by omega
        by_cases hj3:j<i+1+vs.length
        · have e2 : j < i + (vs.length + 1) := by omega
          simp only [hj3,e1,e2,hj,if_true,if_false]
          obtain⟨q,rfl⟩:∃q,j=i+1+q:=⟨j - (i+1),by omega⟩
          simp [show i+1+q - (i+1)=q by omega,show i+1+q - i=q+1 by omega]
        · have e2 : ¬ j < i + (vs.length + 1) := by omega
          simp only [hj3,e2,if_false,List.getElem?_drop]
          rw [List.getElem?_set_ne (by omega)]
          congr 1
          omega
theorem WS.set {g e sz c:Nat}{fl fl':List Value}{w:World}{cur':Array Value} (hw:WS w0 S0 (bV g e sz c fl :: l) w) (hs:cur'.size=c * sz) (hle:fl'.length≤cur'.size) (ht:cur'.toList.take fl'.length=fl'):WS w0 S0 (bV g e sz c fl' :: l) (w.setRow g cur'):=by
  obtain⟨S,⟨A,B,⟨hg,cur,h1,h2,h3,h4⟩,hl,a,b,d⟩,hb,hf⟩:=hw
  have hne:∀k,k≠g→(w.setRow g cur').heap[k]? =w.heap[k]? :=fun k hk=>setRow_other w g k cur' hk
  refine⟨S,⟨A,B,⟨hg,cur',setRow_heap w g cur cur' e _ h1,hs,hle,ht⟩,hl.loc (fun x hx=>hne x (fun e=>d g hg (e ▸ hx))),a,b,d⟩,hb,?_⟩
  refine⟨hf.os,hf.tape,hf.output,by rw [size_setRow];exact hf.size,fun k hk hn=> ?_⟩
  rw [hne k (fun e=> ?_)]
  · exact hf.block k hk hn
  · subst e
    rcases hb _ (a _ hg) with h | h
    · exact hn h
    · omega
theorem pX {cs:List Value} (h:cs.all (·.oneCell')=true):∀u,u∈cs→u.oneCell'=true:=fun u hu=>List.all_eq_true.1 h u hu
theorem qX {p x : Operand} {t : TypeId} {v : Value} {cs : List Value} {g e sz c off : Nat} {fl fl' : List Value} (ho : o.op = .store t p x) (hi : (P.info? t).map (·.size) = some cs.length) (hp : Val T p (.pointer (some ((⟨g, 0, none⟩ : Addr).add off)))) (hx : Val T x v) (hv : v.cells.toList = cs)
    (h1:∀u,u∈cs→u.oneCell'=true) (hT:fG l (bV g e sz c fl) l') (hb:off+cs.length≤fl.length) (hq:tR fl off cs fl'):aF5 P o T w0 S0 l (bV g e sz c fl' :: l'):=by
  intro a w ha hw
  obtain rfl:=hq.eq hb
  have hw':=hw.take hT
  have hw2:=hw'
  obtain⟨S,⟨A,B,⟨hg,cur,g1,g2,g3,g4⟩,hl,_,_,_⟩,_,_⟩:=hw'
  obtain⟨i0,k1,k2⟩:=Option.map_eq_some_iff.1 hi
  have hst:=run_storeCells_at P g off e cs 0 cur w g1 (by omega) h1
  refine⟨w.setRow g (cur.toList.take off++cs++cur.toList.drop (off+cs.length)).toArray,?_,?_⟩
  · have hsz : v.cells.size = i0.size := by rw [k2, ← hv, Array.length_toList]
    simp only [execOp,ho,hp a ha,hx a ha]
    simp only [Nat.add_zero] at hst
    rw [jN]
    simp [Instr.storeAt,Instr.sureAddr,storeVar,sizeOf,typeInfo,k1,hsz,hv,hst]
  · refine WS.set hw2 ?_ ?_ ?_
    · simp only [List.size_toArray,List.length_append,List.length_take,List.length_drop,Array.length_toList];omega
    · rw [mM hb];simp only [List.size_toArray,List.length_append,List.length_take,List.length_drop,Array.length_toList];omega
    · have := xL (L := cur.toList) (cs := cs) (off := off) (n := fl.length) hb (by rw [Array.length_toList]; exact g3)
      rw [g4] at this
      rw [mM hb]
      exact this

theorem WS.new {w:World} (cells:Array Value) (t sz c:Nat) (hsz:cells.size=c * sz) (hw:WS w0 S0 l w):WS w0 S0 (bV w.heap.size t sz c cells.toList :: l) (w.alloc (.cells cells t)):=by
  obtain⟨S,hs,hb,hf⟩:=hw
  have hs':=hs.lt
  refine⟨fun x=>S x∨x=w.heap.size,⟨fun x=>x=w.heap.size,fun x=>S x∧x<w.heap.size,⟨rfl,cells,heap_alloc_new w _,hsz,by simp,by rw [Array.length_toList,←Array.length_toList,List.take_length]⟩,hs'.loc (fun x hx=>Below.heap_alloc w _ x hx.2),fun _ h=> .inr h,fun _ h=> .inl h.1,fun x hx hy=>by subst hx;exact Nat.lt_irrefl _ hy.2⟩,?_,?_⟩
  · rintro x (h | rfl)
    · exact hb x h
    · exact .inr hf.size
  · exact⟨hf.os,hf.tape,hf.output,Nat.le_trans hf.size (by simp),fun b hb' hn=>(Below.heap_alloc w _ b (Nat.lt_of_lt_of_le hb' hf.size)).trans (hf.block b hb' hn)⟩
theorem fQ {x:Operand}{t:TypeId}{v:Value}{cs:List Value}{n:Nat} (ho:o.op= .box t x) (hx:Val T x v) (hv:v.cells.toList=cs) (hn:cs.length=n):Eff P o T w0 S0 l (fun r l'=>∃g,r= .pointer (some ⟨g,0,none⟩)∧l'=bV g t n 1 cs :: l):=by
  intro a w ha hw
  subst hv
  refine⟨.pointer (some ⟨w.heap.size,0,none⟩),w.alloc (.cells v.cells t),_,?_,⟨_,rfl,rfl⟩,hw.new v.cells t n 1 (by rw [←hn,Array.length_toList];omega)⟩
  simp only [execOp,ho,hx a ha]
  simp [Instr.box,newVar,newRow]
theorem bB {t:TypeId}{z:Value}{cs:List Value}{n:Nat} (ho:o.op= .alloc t) (hz:(P.info? t).map (·.zero)=some (some z)) (hv:z.cells.toList=cs) (hn:cs.length=n):Eff P o T w0 S0 l (fun r l'=>∃g,r= .pointer (some ⟨g,0,none⟩)∧l'=bV g t n 1 cs :: l):=by
  intro a w ha hw
  subst hv
  obtain⟨i0,h1,h2⟩:=Option.map_eq_some_iff.1 hz
  refine⟨.pointer (some ⟨w.heap.size,0,none⟩),w.alloc (.cells z.cells t),_,?_,⟨_,rfl,rfl⟩,hw.new z.cells t n 1 (by rw [←hn,Array.length_toList];omega)⟩
  simp only [execOp,ho]
  simp [Instr.alloc,zeroValue,typeInfo,h1,h2,newVar,newRow]
theorem aAo {t e : TypeId} {len sz : Nat} {parts : Array (Nat × Operand)} {ps : List (Nat × Value)} {z : Value} {cs : List Value} (ho : o.op = .buildSlice t len parts) (ht : P.underlying t = some (.slice e)) (he : (P.info? e).map (fun i => (i.size, i.zero)) = some (sz, some z)) (hlen : len * sz ≤ 16777216)
    (hps:∀a:Act,Holds T a→(parts.map fun(i,x)=>(i,a.eval x))=ps.toArray) (hfill:Instr.fill (fun i=>some (i * sz,sz)) ((Array.range (len * sz)).map ((if len * sz=0 then #[]else z.cells)[· % (if len * sz=0 then #[]else z.cells).size]!)) ps=some cs.toArray) (hcs:cs.length=len * sz):
    Eff P o T w0 S0 l (fun r l'=>∃g,r= .slice (some ⟨g,0,none⟩) len len∧l'=bV g e sz len cs :: l):=by
  intro a w ha hw
  obtain⟨i0,h1,h2⟩:=Option.map_eq_some_iff.1 he
  obtain⟨h2,h3⟩:=Prod.mk.inj h2
  refine⟨.slice (some ⟨w.heap.size,0,none⟩) len len,w.alloc (.cells cs.toArray e),_,?_,⟨_,rfl,rfl⟩,hw.new cs.toArray e sz len (by simpa using hcs)⟩
  simp only [execOp,ho]
  have hp:=hps a ha
  have hl:¬(16777216<len * i0.size):=by rw [h2];omega
  by_cases h0:len * sz=0
  · rw [if_pos h0] at hfill
    simp [Instr.buildSlice,run_underlying ht,sizeOf,typeInfo,h1,h2,h3,hp,h0,newRow] at hfill ⊢
    simp [hfill]
  · rw [if_neg h0] at hfill
    simp [Instr.buildSlice,run_underlying ht,sizeOf,typeInfo,zeroValue,h1,h2,h3,hp,h0,newRow,show¬16777216<len * sz by omega] at hfill ⊢
    simp [hfill]
def kB (P:Program) (t:TypeId) (z:Value) (places:Array (Nat×Nat)):Prop:=P.underlying t=some (.struct (aMq P t))∧(P.info? t).map (·.zero)=some (some z)∧∀w,((aMq P t).mapM (m:=Sem) fun f=>do pure (f.offset,←sizeOf f.type)).run P w= .ok places w
theorem aW {t:TypeId}{parts:Array (Nat×Operand)}{ps:List (Nat×Value)}{z:Value}{places:Array (Nat×Nat)}{cs:List Value} (ho:o.op= .build t parts) (hB:kB P t z places) (hps:∀a:Act,Holds T a→(parts.map fun(i,x)=>(i,a.eval x))=ps.toArray) (hfill:Instr.fill (places[·]?) z.cells ps=some cs.toArray):eO P o T Wd (.agg cs.toArray):=fun a w ha _=>by
  obtain⟨ht,hz,hpl⟩:=hB
  obtain⟨i0,h1,h2⟩:=Option.map_eq_some_iff.1 hz
  have hp:=hps a ha
  have hq:=hpl w
  simp only [execOp,ho]
  simp [Instr.build,run_underlying ht,zeroValue,typeInfo,h1,h2,hp,hfill]
  simp only [bind_pure_comp] at hq
  simp [hq,hfill]
end
end Go.Proofs.YtmejbfmhaoilmaaGreatDoor
/- What is proved: slices that are read and slices of one's own: index, append, make, an element set. No condition. -/
namespace Go.Proofs.YtmejbfmhaoilmaaGreatDoor
open Go Go.RowKit
set_option linter.unusedVariables false
set_option linter.unusedSimpArgs false

section
variable {α:Type}{K:Kd α}{e by_:Nat}{w:World}{S F:Bs}{xs ys:List α}{v:Value}
theorem xK (h:(bM e by_ K).own w S xs [v]):∃A c,v= .slice A xs.length c∧xs.length≤c∧c≤9223372036854775807∧xs.length * by_≤140737488355328:=by
  rcases h with ⟨A,h,rfl⟩ |⟨g,c,css,h,h1,h2,h3,_⟩
  · exact⟨A,0,List.singleton_inj.1 h,Nat.le_refl _,Nat.zero_le _,by simp⟩
  · exact⟨_,c,List.singleton_inj.1 h,h1,h2,h3⟩
theorem aD (h:(bM e by_ K).ro w F xs [v]):∃A c,v= .slice A xs.length c∧xs.length≤c∧c≤9223372036854775807∧xs.length * by_≤140737488355328∧(0<xs.length→∃ad,A=some ad∧yN K w F ad xs):=by
  obtain⟨A,c,h,h1,h2,h3,h4⟩:=h
  exact⟨A,c,List.singleton_inj.1 h,h1,h2,h3,h4⟩
theorem yN.elem {ad:Addr} (h:yN K w F ad xs) {j:Nat}{x:α} (hx:xs[j]? =some x):∃ecs,K.ro w F x ecs∧F (ad.add (j * K.sz)).block∧∀i u,ecs[i]? =some u→w.cell? ((ad.add (j * K.sz)).add i)=some u:=by
  obtain⟨ecs,h1,h2⟩:=h.2 j x hx
  exact⟨ecs,h1,by rw [lQ];exact h.1,fun i u hu=>by rw [jA];exact h2 i u hu⟩
theorem aK {α:Type}{xs:List α}{j:Nat} (h:j<xs.length):∃x,xs[j]? =some x:=⟨xs[j],List.getElem?_eq_getElem h⟩
theorem aL (w:World) (S:Bs) (A:Option Addr):(bM e by_ K).own w S [] [.slice A 0 0]:= .inl ⟨A,rfl,rfl⟩

theorem aEb {w:World}{S1 S2 S:Bs}{xs ys:List α}{c1 c2:List (List Value)} (hl:c1.length=xs.length) (h1:cI (jQ K xs c1) w S1) (h2:cI (jQ K ys c2) w S2) (a:∀b,S1 b→S b) (b:∀b,S2 b→S b) (d:∀b,S1 b→¬S2 b):cI (jQ K (xs++ys) (c1++c2)) w S:=by
  have:jQ K (xs++ys) (c1++c2)=jQ K xs c1++jQ K ys c2:=by unfold jQ;rw [List.zipWith_append hl.symm]
  rw [this]
  exact h1.app h2 a b d

structure aJ3 (w : World) (xv : Value) (m sz : Nat) (news : List Value) : Prop where
  len:news.length=m * sz
  from_:(∃a c,xv= .slice (some a) m c∧∀j u,news[j]? =some u→w.cell? (a.add j)=some u)∨((∃c,xv= .slice none 0 c)∧m=0)

theorem aCr {P:Program}{t ty e':TypeId}{i:TypeInfo} (ht:P.underlying t=some (.slice e')) (hi:P.info? e'=some i) (A:Option Addr) (n c:Nat) (hnc:n≤c) (xv:Value) (hx:∃A' c',xv= .slice A' 0 c') (w:World):
    (Builtin.append_ #[t,t] ty #[.slice A n c,xv]).run P w= .ok (.slice A n c) w:=by
  obtain⟨A',c',rfl⟩:=hx
  cases A <;> cases A' <;> simp [Builtin.append_,run_underlying ht,sizeOf,typeInfo,hi,Builtin.lenOf,hnc,Builtin.firstCells,loadCells,loadCellsFrom,storeCells]

theorem xJ {P : Program} {t ty : TypeId} {z : Value} (ht : P.underlying t = some (.slice e)) (hi : (P.info? e).map (fun i => (i.size, i.bytes, i.zero)) = some (K.sz, by_, some z)) (hz : z.cells.size = K.sz)
    {S':Bs}{xv:Value}{css:List (List Value)} (h:(bM e by_ K).own w S xs [v]) (hsrc:aJ3 w xv ys.length K.sz css.flatten) (hcl:css.length=ys.length) (hown:cI (jQ K ys css) w S') (hd:∀b,S b→¬S' b)
    (hb:(xs.length+ys.length) * by_≤140737488355328) (h63:xs.length+ys.length≤9223372036854775807):
    ∃(v':Value) (w':World) (S'':Bs),(Builtin.append_ #[t,t] ty #[v,xv]).run P w= .ok v' w'∧(bM e by_ K).own w' S'' (xs++ys) [v']∧(∀b,S'' b→S b∨S' b∨w.heap.size≤b)∧Fr w S w':=by
  obtain⟨i0,k1,k2⟩:=Option.map_eq_some_iff.1 hi
  obtain⟨k2,k3⟩:=Prod.mk.inj k2
  obtain⟨k3,k4⟩:=Prod.mk.inj k3
  have hone:∀u,u∈css.flatten→u.oneCell'=true:=by
    intro u hu
    obtain⟨c,hc,hu⟩:=List.mem_flatten.1 hu
    obtain⟨j,hj,rfl⟩:=List.mem_iff_getElem.1 hc
    obtain⟨y,hy⟩:=aK (xs:=ys) (j:=j) (by omega)
    exact K.ro_one (K.own_ro (wX hown hy (List.getElem?_eq_getElem hj))) u hu
  have hlc:=pV hcl hown
  have hlen:(xs++ys).length=xs.length+ys.length:=List.length_append
  by_cases h0:ys.length=0
  · -- nothing is appended
    obtain rfl:ys= []:=List.eq_nil_of_length_eq_zero h0
    obtain⟨A,c,rfl,hle,_,_⟩:=xK h
    refine⟨_,w,S,aCr ht k1 A _ _ hle xv ?_ w,by simpa using h,fun b hb=> .inl hb,Fr.refl _ _⟩
    rcases hsrc.from_ with ⟨a,c',rfl,_⟩ |⟨⟨c',rfl⟩,_⟩
    · exact⟨_,c',rfl⟩
    · exact⟨_,c',rfl⟩
  obtain⟨a,c',rfl,hcell⟩:∃a c,xv= .slice (some a) ys.length c∧∀j u,css.flatten[j]? =some u→w.cell? (a.add j)=some u:=by
    rcases hsrc.from_ with h |⟨_,h⟩
    · exact h
    · exact absurd h h0
  -- a new block
  have grown:∀(olds:List (List Value)) (S1:Bs) (old:Nat),olds.length=xs.length→cI (jQ K xs olds) w S1→(∀b,S1 b→S b)→old<xs.length+ys.length→
      (bM e by_ K).own (w.drew.alloc (.cells (olds.flatten.toArray++css.flatten.toArray++Builtin.zeroCells z.cells (grownCap w (xs.length+ys.length) old e - (xs.length+ys.length))) e)) (fun b=>S1 b∨S' b∨w.heap.size≤b) (xs++ys) [.slice (some ⟨w.heap.size,0,none⟩) (xs.length+ys.length) (grownCap w (xs.length+ys.length) old e)]∧
      Fr w S (w.drew.alloc (.cells (olds.flatten.toArray++css.flatten.toArray++Builtin.zeroCells z.cells (grownCap w (xs.length+ys.length) old e - (xs.length+ys.length))) e)):=by
    intro olds S1 old ho hs hsub hlt
    have hge:=grownCap_ge w (xs.length+ys.length) old e
    have hcm:=grownCap_le_maxLen w (xs.length+ys.length) old e (by unfold maxLen;omega)
    unfold maxLen at hcm
    have hlo:=pV ho hs
    have hl1:olds.flatten.length=xs.length * K.sz:=by rw [kE hlo,ho]
    have hl2:css.flatten.length=ys.length * K.sz:=hsrc.len
    have hs':=hs.lt
    have hown':=hown.lt
    constructor
    · refine .inr ⟨w.heap.size, _, olds ++ css, ?_, by rw [hlen]; exact hge, by omega, by rw [hlen]; exact hb, by rw [List.length_append, ho, hcl, hlen], ?_⟩
      · rw [hlen]
      · refine ⟨fun b => b = w.heap.size, fun b => (S1 b ∨ S' b) ∧ b < w.heap.size, ⟨rfl, _, heap_alloc_new w.drew _, ?_, ?_, ?_⟩, ?_, fun b hb => .inr (.inr (by omega)), fun b hb => hb.1.elim .inl (fun h => .inr (.inl h)), fun b hb hb' => by have := hb'.2; omega⟩
        · simp only [Array.size_append, List.size_toArray, size_zeroCells, hz, hl1, hl2, ← Nat.add_mul]
          congr 1;omega
        · simp only [Array.size_append,List.size_toArray,List.flatten_append,List.length_append];omega
        · simp only [Array.toList_append, List.flatten_append]
          exact List.take_left
        · have hold : ∀ b, b < w.heap.size → (w.drew.alloc (.cells (olds.flatten.toArray ++ css.flatten.toArray ++ Builtin.zeroCells z.cells (grownCap w (xs.length + ys.length) old e - (xs.length + ys.length))) e)).heap[b]? = w.heap[b]? := fun b hb => Below.heap_alloc w.drew _ b hb
          exact aEb ho (hs'.loc (fun b hb=>hold b hb.2)) (hown'.loc (fun b hb=>hold b hb.2)) (fun b hb=>⟨.inl hb.1,hb.2⟩) (fun b hb=>⟨.inr hb.1,hb.2⟩) (fun b hb hb'=>hd b (hsub b hb.1) hb'.1)
    · exact⟨rfl,rfl,rfl,by simp,fun b hb _=>Below.heap_alloc w.drew _ b hb⟩
  have hz':i0.zero=some z:=k4
  rcases h with ⟨A,h,rfl⟩ |⟨g,c,css0,h,h1,h2,h3,h4,h5⟩
  · obtain rfl := List.singleton_inj.1 h
    have hgr:=grown [] (fun _=>False) 0 rfl trivial (fun _ h=>h.elim) (by simp;omega)
    simp only [List.length_nil,Nat.zero_add,List.flatten_nil,List.nil_append] at hgr hb h63 ⊢
    cases A with
    | none=>
      have hr:=run_append_nil (P:=P) w t ty e i0 z ht k1 hz' a ys.length c' css.flatten (by rw [k2];exact hsrc.len) hcell (by omega) (by omega) (by rw [k3];omega)
      refine⟨_,_,fun b=>False∨S' b∨w.heap.size≤b,hr,?_,fun b hb=>hb.elim (fun h=>h.elim) .inr,?_⟩
      · have := hgr.1
        simpa using this
      · have := hgr.2
        simpa using this
    | some b0=>
      have hr:=run_append_grow (P:=P) w t ty e i0 z ht k1 hz' b0 0 0 [] (by simp) (by simp) a ys.length c' css.flatten (by rw [k2];exact hsrc.len) hcell (by omega) (by omega) (growslice_fits (by omega) (by rw [k3,Nat.zero_add];exact hb))
      simp only [Nat.zero_add] at hr
      refine⟨_,_,fun b=>False∨S' b∨w.heap.size≤b,hr,?_,fun b hb=>hb.elim (fun h=>h.elim) .inr,?_⟩
      · have := hgr.1
        simpa using this
      · have := hgr.2
        simpa using this
  · obtain rfl := List.singleton_inj.1 h
    obtain⟨S1,S2,⟨hg,cur,g1,g2,g3,g4⟩,hseq,i1,i2,dd⟩:=h5
    have hlo:=pV h4 hseq
    have hl1:css0.flatten.length=xs.length * K.sz:=by rw [kE hlo,h4]
    by_cases hroom:xs.length+ys.length≤c
    · have hfit : xs.length * i0.size + css.flatten.length ≤ cur.size := by rw [k2, hsrc.len, g2, ← Nat.add_mul]; exact Nat.mul_le_mul_right _ hroom
      have hr:=run_append_room (P:=P) w t ty e i0 ht k1 g xs.length c cur g1 a ys.length c' css.flatten (by rw [k2];exact hsrc.len) hcell hone hroom hfit
      rw [k2] at hr hfit
      have htk:cur.toList.take (xs.length * K.sz)=css0.flatten:=by rw [←hl1];exact g4
      rw [htk] at hr
      have hne:∀b,b≠g→(w.setRow g (css0.flatten++css.flatten++cur.toList.drop (xs.length * K.sz+css.flatten.length)).toArray).heap[b]? =w.heap[b]? :=fun b hb=>setRow_other w g b _ hb
      refine⟨_,_,fun b=>S b∨S' b,hr,?_,fun b hb=>hb.elim .inl (fun h=> .inr (.inl h)),⟨rfl,rfl,rfl,by simp,fun b hb hn=>hne b (fun e=>hn (e ▸ i1 g hg))⟩⟩
      refine .inr ⟨g,c,css0++css,by rw [hlen],by rw [hlen];exact hroom,h2,by rw [hlen];exact hb,by rw [List.length_append,h4,hcl,hlen],?_⟩
      refine⟨fun b=>b=g,fun b=>S2 b∨S' b,⟨rfl,_,setRow_heap w g cur _ e _ g1,?_,?_,?_⟩,?_,fun b hb=> .inl (hb ▸ i1 g hg),fun b hb=>hb.elim (fun h=> .inl (i2 b h)) .inr,fun b hb hb'=>by subst hb;exact hb'.elim (dd _ hg) (hd _ (i1 _ hg))⟩
      · simp only [List.size_toArray,List.length_append,List.length_drop,Array.length_toList,hl1];omega
      · simp only [List.size_toArray,List.length_append,List.flatten_append];omega
      · simp only [List.flatten_append];exact List.take_left
      · exact aEb h4 (hseq.loc (fun b hb=>hne b (fun e=>dd g hg (e ▸ hb)))) (hown.loc (fun b hb=>hne b (fun e=>hd g (i1 g hg) (e ▸ hb)))) (fun b h=> .inl h) (fun b h=> .inr h) (fun b hb=>hd b (i2 b hb))
    · have hr := run_append_grow (P := P) w t ty e i0 z ht k1 hz' ⟨g, 0, none⟩ xs.length c css0.flatten (by rw [k2]; exact hl1)
        (fun j u hu=>by rw [jN];exact qJ (S:=S1) (sz:=K.sz) (c:=c) ⟨hg,cur,g1,g2,g3,g4⟩ hu) a ys.length c' css.flatten (by rw [k2];exact hsrc.len) hcell (by omega) (by omega) (growslice_fits (by omega) (by rw [k3];exact hb))
      have hgr:=grown css0 S2 c h4 hseq i2 (by omega)
      exact⟨_,_,fun b=>S2 b∨S' b∨w.heap.size≤b,hr,hgr.1,fun b hb=>hb.elim (fun h=> .inl (i2 b h)) .inr,hgr.2⟩
end
end Go.Proofs.YtmejbfmhaoilmaaGreatDoor
/- What is proved: more words on rows and structs: opened, put together, appended to, made. No condition. -/
namespace Go.Proofs.YtmejbfmhaoilmaaGreatDoor
open Go Go.RowKit
set_option linter.unusedVariables false
set_option linter.unusedSimpArgs false

def Mk {α:Type} (K:Kd α) (x:α) (cs:List Value) (l:List Asn):Prop:=∀w S,cI l w S→K.own w S x cs
theorem aEw {α:Type}{K:Kd α}{x:α}{cs:List Value}:Mk K x cs [aH K x cs]:=fun w S h=>show K.own w S x cs from h.head (c:=aH K x cs)
theorem aAt {k:IntKind}{x:Int}:Mk (gS k) x [.int k x] []:=fun _ _ _=>⟨rfl,trivial⟩
theorem aLn {x:ByteArray} (h:x.size≤140737488351232):Mk pQ x [.string x] []:=fun _ _ _=>⟨rfl,h⟩
theorem tZ {α β:Type}{A:Kd α}{B:Kd β}{x:α}{y:β}{c1 c2:List Value}{l1 l2:List Asn} (a:Mk A x c1 l1) (b:Mk B y c2 l2):Mk (jE A B) (x,y) (c1++c2) (l1++l2):=fun w S h=>by
  obtain⟨S1,S2,h1,h2,i,j,d⟩:=h.split
  exact⟨c1,c2,rfl,S1,S2,a _ _ h1,cI.one (c:=aH B y c2) (b _ _ h2),i,j,d⟩
theorem aC0 {c1 c2:Asn}{w:World}{S:Bs} (h:cI [c1,c2] w S):∃S1 S2:Bs,c1.p w S1∧c2.p w S2∧(∀b,S1 b→S b)∧(∀b,S2 b→S b)∧∀b,S1 b→¬S2 b:=by
  obtain⟨S1,S2,h1,h2,i,j,d⟩:=h
  exact⟨S1,S2,h1,h2.head,i,j,d⟩
theorem lS {α:Type}{K:Kd α}{e b:Nat}{w:World}{F:Bs}{xs:List α}{cs:List Value} (h:(bM e b K).ro w F xs cs):∃v,cs= [v]:=let ⟨_,_,h,_⟩:=h;⟨_,h⟩
theorem aE5 {α:Type}{K:Kd α}{e b:Nat}{w:World}{S:Bs}{xs:List α}{cs:List Value} (h:(bM e b K).own w S xs cs):∃v,cs= [v]:=lS ((bM e b K).own_ro h)
end Go.Proofs.YtmejbfmhaoilmaaGreatDoor
/- What is proved: rules at the level of whole slices: append, make, an element set, elements read; structs behind pointers; results that lie in memory. No condition. -/
namespace Go.Proofs.YtmejbfmhaoilmaaGreatDoor
open Go Go.RowKit
set_option linter.unusedVariables false
set_option linter.unusedSimpArgs false

def eV {α:Type} (K:Kd α) (w:World) (F:Bs) (ad:Addr) (x:α):Prop:=∃ecs,F ad.block∧K.ro w F x ecs∧∀(i:Nat) (u:Value),ecs[i]? =some u→w.cell? (ad.add i)=some u
theorem aGt {fl cs:List Value}{off:Nat} (h:(fl.drop off).take cs.length=cs):∀(i:Nat) (u:Value),cs[i]? =some u→fl[off+i]? =some u:=fun i u hu=>by
  rw [←h,List.getElem?_take] at hu
  split at hu
  · simpa using hu
  · cases hu
theorem inz {P:Program}{e s b:Nat}{z:Option Value} (h:(P.info? e).map (fun i=>(i.size,i.bytes,i.zero))=some (s,b,z)):(P.info? e).map (fun i=>(i.size,i.zero))=some (s,z):=by
  obtain⟨i,h1,h2⟩:=Option.map_eq_some_iff.1 h
  obtain⟨h2,h3⟩:=Prod.mk.inj h2
  obtain⟨_,h4⟩:=Prod.mk.inj h3
  rw [h1,Option.map_some,h2,h4]
theorem lF {α:Type}{K:Kd α}{e b:Nat}{w:World}{F:Bs}:(bM e b K).ro w F [] [.slice none 0 0]:=⟨none,0,rfl,Nat.le_refl _,Nat.zero_le _,by simp,fun h=>absurd h (Nat.lt_irrefl _)⟩
section
variable {P:Program}{T:eR}{Wd:World→Prop}{o:Oper}{N:Nat}{w0:World}{S0:Bs}{l l' lk:List Asn}

theorem WS.w {g e sz c:Nat}{fl cs:List Value} (ht:fG l (bV g e sz c fl) l') (hv:∀(i:Nat) (u:Value),cs[i]? =some u→fl[i]? =some u):∀w,WS w0 S0 l w→∀(i:Nat) (u:Value),cs[i]? =some u→w.cell? ((⟨g,0,none⟩:Addr).add i)=some u:=
  fun w hw i u hu=>WS.g ht (hv i u hu) w hw
theorem WS.el {B:Addr}{ecs:List Value}{k:Nat}{u:Value} (hF:FF w0 S0 B.block) (hc:∀(i:Nat) (u:Value),ecs[i]? =some u→w0.cell? (B.add i)=some u) (hu:ecs[k]? =some u):∀w,WS w0 S0 l w→w.cell? (B.add k)=some u:=
  WS.ctx (by rw [lQ];exact hF) (hc k u hu)
theorem WS.i {B:Addr}{ecs:List Value}{u:Value} (hF:FF w0 S0 B.block) (hc:∀(i:Nat) (u:Value),ecs[i]? =some u→w0.cell? (B.add i)=some u) (hu:ecs[0]? =some u):∀w,WS w0 S0 l w→w.cell? B=some u:=
  WS.ctx hF (hc 0 u hu)
theorem WS.aa {B:Addr}{ecs:List Value} (hF:FF w0 S0 B.block) (hc:∀(i:Nat) (u:Value),ecs[i]? =some u→w0.cell? (B.add i)=some u):∀w,WS w0 S0 l w→∀(i:Nat) (u:Value),ecs[i]? =some u→w.cell? (B.add i)=some u:=WS.y hF hc
theorem WS.a {α:Type}{K:Kd α}{e by_:Nat}{xs:List α}{v:Value} (ht:fG l (aH (bM e by_ K) xs [v]) l'):∀w,WS w0 S0 l w→∃A c,v= .slice A xs.length c∧xs.length≤c∧c≤9223372036854775807∧xs.length * by_≤140737488355328:=fun w hw=>by
  obtain⟨S,hs,_,_⟩:=hw.take ht
  exact xK (show(bM e by_ K).own w S xs [v] from hs.head)
theorem WS.h {α:Type}{K:Kd α}{e by_:Nat}{xs:List α}{A:Option Addr}{n c:Nat} (ht:fG l (aH (bM e by_ K) xs [.slice A n c]) l') (hp:0<xs.length):∀w,WS w0 S0 l w→∃ad,A=some ad:=fun w hw=>by
  obtain⟨S,hs,_,_⟩:=hw.take ht
  obtain⟨A',c',h,_,_,_,h4⟩:=aD ((bM e by_ K).own_ro (show(bM e by_ K).own w S xs _ from hs.head))
  obtain⟨ad,ha,_⟩:=h4 hp
  injection h with h1 h2 h3
  exact⟨ad,h1.trans ha⟩
theorem WS.m {α:Type}{enc:α→Value}{ok:α→Prop}{h1:∀x,(enc x).oneCell'=true}{e by_:Nat}{xs:List α}{ad:Addr}{n c j:Nat}{x:α} (ht:fG l (aH (bM e by_ (mO enc ok h1)) xs [.slice (some ad) n c]) l') (hx:xs[j]? =some x):∀w,WS w0 S0 l w→w.cell? (ad.add (j * 1))=some (enc x):=fun w hw=>by
  obtain⟨S,hs,_,_⟩:=hw.take ht
  obtain⟨A',c',h,_,_,_,h4⟩:=aD ((bM e by_ (mO enc ok h1)).own_ro (show(bM e by_ (mO enc ok h1)).own w S xs _ from hs.head))
  obtain⟨ad',ha,hr⟩:=h4 (by have:=(List.getElem?_eq_some_iff.1 hx).1;omega)
  injection h with g1 g2 g3
  rw [ha] at g1
  obtain rfl:=Option.some.inj g1
  obtain⟨ecs,⟨rfl,_⟩,_,hc⟩:=hr.elem hx
  exact hc 0 _ rfl
theorem Tr.ptr {α:Type}{K:Kd α}{w:World}{S1:Bs}{lr:List Asn}{g e sz c:Nat}{ecs:List Value}{x:α} (tr:Tr w0 S0 w S1 lr) (tk:fG lr (bV g e sz c ecs) l') (hr:K.ro w (FF w S1) x ecs):eV K w (FF w S1) ⟨g,0,none⟩ x:=by
  obtain⟨S2,hs,hsub⟩:=tr.all
  have h:=(hs.take tk).head
  refine⟨ecs,hsub _ h.1,hr,fun i u hu=> ?_⟩
  rw [jN]
  exact qJ h hu
theorem Tr.ctxP {α:Type}{K:Kd α}{w:World}{S1:Bs}{lr:List Asn}{ad:Addr}{x:α} (tr:Tr w0 S0 w S1 lr) (h:eV K w0 (FF w0 S0) ad x):eV K w (FF w S1) ad x:=by
  obtain⟨ecs,h1,h2,h3⟩:=h
  refine⟨ecs,(tr.wide _ h1).1,tr.ctx h2,fun i u hu=> ?_⟩
  exact(tP (by rw [lQ];exact(tr.wide _ h1).2)).trans (h3 i u hu)
theorem Tr.el {α:Type}{K:Kd α}{w:World}{S1:Bs}{lr:List Asn}{B:Addr}{ecs:List Value}{x:α} (tr:Tr w0 S0 w S1 lr) (hF:FF w0 S0 B.block) (hr:K.ro w0 (FF w0 S0) x ecs) (hc:∀(i:Nat) (u:Value),ecs[i]? =some u→w0.cell? (B.add i)=some u):eV K w (FF w S1) B x:=
  tr.ctxP ⟨ecs,hF,hr,hc⟩

theorem aL5 {fn : Func} {s ty : Nat} {ad : Addr} {cs : List Value} (hr : fn.results = #[.cell s ty]) (h : Get T (s, .pointer (some ad))) (hg : eE P ty true) (hi : (P.info? ty).map (·.size) = some cs.length)
    (hc:∀w,WS w0 S0 l w→∀(i:Nat) (u:Value),cs[i]? =some u→w.cell? (ad.add i)=some u):∀(a:Act) (w:World),Holds T a→WS w0 S0 l w→(results fn a.tmps).run P w= .ok (.agg cs.toArray) w:=fun a w ha hw=>by
  obtain⟨d,ht,hd⟩:=hg.ex
  have hag:=rS ht w
  rw [hd] at hag
  obtain⟨i0,h1,h2⟩:=Option.map_eq_some_iff.1 hi
  have hl:=run_loadCells_list (P:=P) w ad cs (hc w hw)
  have e1:=pT h ha
  simp only [Array.getD_eq_getD_getElem?] at e1
  simp [results,hr,e1,asAddr,loadVar,Sem.run_bind,hag,sizeOf,typeInfo,h1,h2,hl]
theorem vW {s x:Operand}{t:TypeId}{v xv:Value}{a:Act}{w:World} (ho:o.op= .call {callee:= .builtin .append,args:= #[s,x],argTypes:= #[t,t]}) (hs:a.eval s=v) (hx:a.eval x=xv):
    (execOp a.eval o).run P w=((Builtin.append_ #[t,t] o.type #[v,xv]).run P w).andThen fun r w'=> .ok (.value r) w':=by
  simp only [execOp,ho]
  simp [resolve,hs,hx,invoke,builtin]
theorem WS.eff {lc lr:List Asn}{w:World} (h:WS w0 S0 (lc++lr) w):∃S1:Bs,cI lc w S1∧Tr w0 S0 w S1 lr∧∀(w':World) (l':List Asn) (S':Bs),cI l' w' S'→(∀b,S' b→S1 b∨w.heap.size≤b)→Fr w S1 w'→WS w0 S0 (l'++lr) w':=by
  obtain⟨S1,h1,h2,h3⟩:=h.frame
  exact⟨S1,h1,h2,fun w' l' S' a b c=>h3 w' l' ⟨S',a,b,c⟩⟩
theorem dK {α : Type} {K : Kd α} {e by_ eb gb : Nat} {xs : List α} {y : α} {cs : List Value} {z v : Value} {s x : Operand} {t : TypeId} (ho : o.op = .call { callee := .builtin .append, args := #[s, x], argTypes := #[t, t] }) (ht : P.underlying t = some (.slice e))
    (hi:(P.info? e).map (fun i=>(i.size,i.bytes,i.zero))=some (K.sz,by_,some z)) (hz:z.cells.size=K.sz) (hs:Val T s v) (hx:Val T x (.slice (some ⟨gb,0,none⟩) 1 1))
    (hT:mT l [aH (bM e by_ K) xs [v],bV gb eb K.sz 1 cs,aH K y cs] l') (hb:(xs.length+1) * by_≤140737488355328) (h63:xs.length+1≤9223372036854775807):
    Eff P o T w0 S0 l (fun r l2=>l2=aH (bM e by_ K) (xs++ [y]) [r] :: l'):=by
  intro a w ha hw
  obtain⟨S1,⟨SA,SR,hA,⟨SB,SC,hB,hC,i1,i2,d1⟩,j1,j2,d2⟩,_,hk⟩:=(hw.takes hT).eff
  have hC':K.own w SC y cs:=hC.head (c:=aH K y cs)
  have hl:cs.length=K.sz:=wS hC'
  obtain ⟨v', w', S'', hr, hown, hsub, hfr⟩ := xJ (P := P) (t := t) (ty := o.type) (K := K) (xs := xs) (ys := [y]) (css := [cs]) (xv := .slice (some ⟨gb, 0, none⟩) 1 1) (S := SA) (S' := SC) ht hi hz hA
    ⟨by simp [hl],.inl ⟨_,_,rfl,fun j u hu=>by rw [jN];exact qJ hB (by simpa using hu)⟩⟩ rfl (cI.one (c:=aH K y cs) hC') (fun b hb hc=>d2 b hb (i2 b hc)) (by simpa using hb) (by simpa using h63)
  refine⟨v',w',_,?_,rfl,hk w' [aH (bM e by_ K) (xs++ [y]) [v']] S'' (cI.one hown) (fun b hb=> ?_) (hfr.wide j1)⟩
  · rw [vW ho (hs a ha) (hx a ha),hr];rfl
  · rcases hsub b hb with h | h | h
    · exact .inl (j1 b h)
    · exact .inl (j2 b (i2 b h))
    · exact .inr h
def aCv {α:Type} (K:Kd α):Prop:=∀{w F x cs},K.ro w F x cs→∀w' S',K.own w' S' x cs
theorem bT {α:Type} (enc:α→Value) (ok:α→Prop) (h1:∀x,(enc x).oneCell'=true):aCv (mO enc ok h1):=fun h _ _=>h
theorem gF {α β:Type}{A:Kd α}{B:Kd β} (a:aCv A) (b:aCv B):aCv (jE A B):=by
  rintro w F x cs ⟨c1,c2,rfl,h1,h2⟩ w' S'
  exact⟨c1,c2,rfl,fun _=>False,fun _=>False,a h1 _ _,cI.one (c:=aH B x.2 c2) (b h2 _ _),fun _ h=>h.elim,fun _ h=>h.elim,fun _ h=>h.elim⟩
theorem iF {α β:Type}{A:Kd α} (f:β→α) (a:aCv A):aCv (aGj A f):=fun h _ _=>a h _ _
theorem aCx {α : Type} {K : Kd α} (hK : aCv K) {w : World} {F : Bs} : ∀ {ys : List α} {css : List (List Value)}, css.length = ys.length → (∀ (j : Nat) (y : α) (c : List Value), ys[j]? = some y → css[j]? = some c → K.ro w F y c) → ∀ w' S', cI (jQ K ys css) w' S'
  | [],[],_,_,_,_=>trivial
  | [],_ :: _,h,_,_,_=>by simp at h
  | _ :: _,[],h,_,_,_=>by simp at h
  | y :: ys,c :: css,hl,h,w',S'=>
    ⟨fun _=>False,fun _=>False,hK (h 0 y c rfl rfl) _ _,aCx hK (by simpa using hl) (fun j y' c' h1 h2=>h (j+1) y' c' h1 h2) _ _,fun _ h=>h.elim,fun _ h=>h.elim,fun _ h=>h.elim⟩
theorem aEe {p : Nat → List Value → Prop} : ∀ n, (∀ j, j < n → ∃ c, p j c) → ∃ css : List (List Value), css.length = n ∧ ∀ j c, css[j]? = some c → p j c
  | 0,_=>⟨[],rfl,by simp⟩
  | n+1,h=>by
    obtain⟨css,h1,h2⟩:=aEe n (fun j hj=>h j (by omega))
    obtain⟨c,hc⟩:=h n (by omega)
    refine⟨css++ [c],by simp [h1],fun j d hd=> ?_⟩
    rw [List.getElem?_append] at hd
    split at hd
    · exact h2 j d hd
    · rename_i hj
      have:j - css.length=0:=by
        have:=(List.getElem?_eq_some_iff.1 hd).1
        simp at this;omega
      have e:j=n:=by omega
      subst e
      rw [h1] at hd
      simp at hd
      subst hd
      exact hc
theorem aHc {α:Type}{K:Kd α}{e by_:Nat}{w:World}{F:Bs}{ys:List α}{xv:Value} (h:(bM e by_ K).ro w F ys [xv]):∃css:List (List Value),css.length=ys.length∧aJ3 w xv ys.length K.sz css.flatten∧∀(j:Nat) (y:α) (c:List Value),ys[j]? =some y→css[j]? =some c→K.ro w F y c:=by
  obtain⟨A,c,rfl,hle,_,_,h4⟩:=aD h
  by_cases hp:0<ys.length
  · obtain ⟨ad, rfl, hF, hr⟩ := h4 hp
    obtain⟨css,h1,h2⟩:=aEe (p:=fun j c=>∀y,ys[j]? =some y→K.ro w F y c∧∀i u,c[i]? =some u→w.cell? (ad.add (j * K.sz+i))=some u) ys.length (fun j hj=>by
      obtain⟨y,hy⟩:=aK hj
      obtain⟨ecs,k1,k2⟩:=hr j y hy
      exact⟨ecs,fun y' hy'=>by rw [hy] at hy';obtain rfl:=Option.some.inj hy';exact⟨k1,k2⟩⟩)
    have hlen:∀d,d∈css→d.length=K.sz:=fun d hd=>by
      obtain⟨j,hj,rfl⟩:=List.mem_iff_getElem.1 hd
      obtain⟨y,hy⟩:=aK (xs:=ys) (j:=j) (by omega)
      exact K.ro_len (h2 j _ (List.getElem?_eq_getElem hj) y hy).1
    refine⟨css,h1,⟨by rw [kE hlen,h1],.inl ⟨ad,c,rfl,fun q u hu=> ?_⟩⟩,fun j y d hy hd=>(h2 j d hd y hy).1⟩
    have hq:q<ys.length * K.sz:=by have:=(List.getElem?_eq_some_iff.1 hu).1;rw [kE hlen,h1] at this;exact this
    have hpos:=K.pos
    have hj:q / K.sz<ys.length:=Nat.div_lt_of_lt_mul (by rw [Nat.mul_comm];exact hq)
    have hdm:q / K.sz * K.sz+q % K.sz=q:=by rw [Nat.mul_comm];exact Nat.div_add_mod q K.sz
    obtain⟨y,hy⟩:=aK hj
    have hcj:css[q / K.sz]? =some css[q / K.sz]:=List.getElem?_eq_getElem (by omega)
    have hf:=sY hlen hcj (q % K.sz) (Nat.mod_lt _ hpos)
    rw [hdm,hu] at hf
    have:=(h2 _ _ hcj y hy).2 _ u hf.symm
    rwa [hdm] at this
  · have h0 : ys.length = 0 := by omega
    obtain rfl:=List.eq_nil_of_length_eq_zero h0
    refine⟨[],rfl,⟨by simp,?_⟩,by simp⟩
    cases A with
    | none=>exact .inr ⟨⟨c,rfl⟩,rfl⟩
    | some a=>exact .inl ⟨a,c,rfl,by simp⟩
theorem eD {α : Type} {K : Kd α} (hK : aCv K) {e by_ e2 by2 : Nat} {xs ys : List α} {z v xv : Value} {s x : Operand} {t : TypeId} (ho : o.op = .call { callee := .builtin .append, args := #[s, x], argTypes := #[t, t] }) (ht : P.underlying t = some (.slice e))
    (hi:(P.info? e).map (fun i=>(i.size,i.bytes,i.zero))=some (K.sz,by_,some z)) (hz:z.cells.size=K.sz) (hs:Val T s v) (hx:Val T x xv)
    (hT:mT l [aH (bM e by_ K) xs [v]] l') (hsrc:∀w S1,Tr w0 S0 w S1 l'→(bM e2 by2 K).ro w (FF w S1) ys [xv]) (hb:(xs.length+ys.length) * by_≤140737488355328) (h63:xs.length+ys.length≤9223372036854775807):
    Eff P o T w0 S0 l (fun r l2=>l2=aH (bM e by_ K) (xs++ys) [r] :: l'):=by
  intro a w ha hw
  obtain⟨S1,hA,tr,hk⟩:=(hw.takes hT).eff
  obtain⟨css,h1,h2,h3⟩:=aHc (hsrc w S1 tr)
  have hseq:=aCx hK h1 h3 w (fun _=>False)
  obtain⟨v',w',S'',hr,hown,hsub,hfr⟩:=xJ (P:=P) (t:=t) (ty:=o.type) (K:=K) (xs:=xs) (ys:=ys) (css:=css) (xv:=xv) (S:=S1) (S':=fun _=>False) ht hi hz (show(bM e by_ K).own w S1 xs [v] from hA.head) h2 h1 hseq (fun _ _ h=>h) hb h63
  refine⟨v',w',_,?_,rfl,hk w' [aH (bM e by_ K) (xs++ys) [v']] S'' (cI.one hown) (fun b hb=> ?_) hfr⟩
  · rw [vW ho (hs a ha) (hx a ha),hr];rfl
  · rcases hsub b hb with h | h | h
    · exact .inl h
    · exact h.elim
    · exact .inr h

theorem nQ (z:Array Value) (n:Nat) (hz:0<z.size):(madeCells z (n * z.size)).toList=(List.replicate n z.toList).flatten:=by
  have hl:∀c,c∈List.replicate n z.toList→c.length=z.size:=fun c hc=>by rw [(List.mem_replicate.1 hc).2,Array.length_toList]
  apply List.ext_getElem?
  intro q
  by_cases hq:q<n * z.size
  · have hj : q / z.size < n := Nat.div_lt_of_lt_mul (by rw [Nat.mul_comm]; exact hq)
    have hdm:q / z.size * z.size+q % z.size=q:=by rw [Nat.mul_comm];exact Nat.div_add_mod q z.size
    have hm:=Nat.mod_lt q hz
    have h1:=sY hl (j:=q / z.size) (c:=z.toList) (by rw [List.getElem?_replicate,if_pos hj]) (q % z.size) hm
    rw [hdm] at h1
    rw [h1]
    simp [madeCells,hq,hm]
  · have h2 : (madeCells z (n * z.size)).toList.length ≤ q := by rw [Array.length_toList, size_madeCells]; omega
    have h3:(List.replicate n z.toList).flatten.length≤q:=by rw [kE hl,List.length_replicate];omega
    rw [List.getElem?_eq_none h2,List.getElem?_eq_none h3]
theorem aAz {α : Type} {K : Kd α} {x0 : α} {c0 : List Value} (h0 : ∀ w S, K.own w S x0 c0) : ∀ (n : Nat) (w : World) (S : Bs), cI (jQ K (List.replicate n x0) (List.replicate n c0)) w S
  | 0,_,_=>trivial
  | n+1,w,S=>⟨fun _=>False,fun _=>False,h0 w _,aAz h0 n w _,fun _ h=>h.elim,fun _ h=>h.elim,fun _ h=>h.elim⟩
theorem lJ {α : Type} {K : Kd α} {e by_ n : Nat} {x0 : α} {z : Value} {k k' : IntKind} {lo co : Operand} {t : TypeId} (ho : o.op = .makeSlice t lo co) (ht : P.underlying t = some (.slice e)) (hi : (P.info? e).map (fun i => (i.size, i.bytes, i.zero)) = some (K.sz, by_, some z)) (hz : z.cells.size = K.sz)
    (h0:∀w S,K.own w S x0 z.cells.toList) (hl:Val T lo (.int k (n:Int))) (hc:Val T co (.int k' (n:Int))) (hb:n * by_≤140737488355328) (h63:n≤9223372036854775807):Eff P o T w0 S0 l (fun r l2=>l2=aH (bM e by_ K) (List.replicate n x0) [r] :: l):=by
  intro a w ha hw
  obtain⟨i0,k1,k2⟩:=Option.map_eq_some_iff.1 hi
  obtain⟨k2,k3⟩:=Prod.mk.inj k2
  obtain⟨k3,k4⟩:=Prod.mk.inj k3
  have hpos:=K.pos
  have hbb:(i0.bytes:Int) * (n:Int)≤281474976710656:=by
    have h:((by_ * n:Nat):Int)≤281474976710656:=by rw [Nat.mul_comm];omega
    rw [k3]
    rwa [Int.natCast_mul] at h
  have hr:=run_make (P:=P) w t e i0 z ht k1 k4 k k' n n (by omega) (Int.le_refl _) hbb (by omega)
  simp only [Int.toNat_natCast,k2] at hr
  obtain⟨S,hs,hsub,hf⟩:=hw
  have hs':=hs.lt
  have hold:∀b,b<w.heap.size→(w.alloc (.cells (madeCells z.cells (n * K.sz)) e)).heap[b]? =w.heap[b]? :=fun b hb=>Below.heap_alloc w _ b hb
  have hfl:(madeCells z.cells (n * K.sz)).toList=(List.replicate n z.cells.toList).flatten:=by rw [←hz];exact nQ _ _ (by omega)
  refine⟨.slice (some ⟨w.heap.size,0,none⟩) n n,w.alloc (.cells (madeCells z.cells (n * K.sz)) e),_,?_,rfl,fun x=>S x∨x=w.heap.size,⟨fun x=>x=w.heap.size,fun x=>S x∧x<w.heap.size,?_,hs'.loc (fun x hx=>hold x hx.2),fun _ h=> .inr h,fun _ h=> .inl h.1,fun x hx hy=>by subst hx;exact Nat.lt_irrefl _ hy.2⟩,?_,?_⟩
  · simp only [execOp, ho, hl a ha, hc a ha]
    simp only [Sem.run_bind,hr,Result.andThen_ok];rfl
  · refine .inr ⟨w.heap.size, n, List.replicate n z.cells.toList, by rw [List.length_replicate], by rw [List.length_replicate]; exact Nat.le_refl _, h63, by rw [List.length_replicate]; exact hb, by rw [List.length_replicate, List.length_replicate], ?_⟩
    refine⟨fun x=>x=w.heap.size,fun _=>False,⟨rfl,_,heap_alloc_new w _,by rw [size_madeCells],?_,?_⟩,aAz h0 n _ _,fun _ h=>h,fun _ h=>h.elim,fun _ _ h=>h⟩
    · rw [←hfl,Array.length_toList];exact Nat.le_refl _
    · rw [←hfl,List.take_length]
  · rintro x (h | rfl)
    · exact hsub x h
    · exact .inr hf.size
  · exact⟨hf.os,hf.tape,hf.output,Nat.le_trans hf.size (by simp),fun b hb' hn=>(hold b (Nat.lt_of_lt_of_le hb' hf.size)).trans (hf.block b hb' hn)⟩

theorem aEr {α : Type} {K : Kd α} {y : α} {cs : List Value} {w : World} : ∀ {xs : List α} {css : List (List Value)} {S1 S2 S : Bs} (j : Nat), cI (jQ K xs css) w S1 → K.own w S2 y cs → (∀ b, S1 b → S b) → (∀ b, S2 b → S b) → (∀ b, S1 b → ¬ S2 b) → cI (jQ K (xs.set j y) (css.set j cs)) w S
  | [],css,_,_,_,_,h,_,_,_,_=>by simp [jQ,cI]
  | x :: xs,[],_,_,_,j,h,_,_,_,_=>by
    have:jQ K ((x :: xs).set j y) (([]:List (List Value)).set j cs)= []:=by simp [jQ]
    rw [this];trivial
  | x :: xs,c :: css,S1,S2,S,0,⟨A,B,hA,hB,a,b,d⟩,h2,i1,i2,dd=>⟨S2,B,h2,hB,i2,fun q hq=>i1 q (b q hq),fun q hq hb=>dd q (b q hb) hq⟩
  | x :: xs,c :: css,S1,S2,S,j+1,⟨A,B,hA,hB,a,b,d⟩,h2,i1,i2,dd=>
    ⟨A,fun q=>B q∨S2 q,hA,aEr j hB h2 (fun _ h=> .inl h) (fun _ h=> .inr h) (fun q hq=>dd q (b q hq)),fun q hq=>i1 q (a q hq),fun q hq=>hq.elim (fun h=>i1 q (b q h)) (i2 q),fun q hq hb=>hb.elim (d q hq) (dd q (a q hq))⟩
theorem vZ {css:List (List Value)}{n:Nat}{cs:List Value} (hl:∀c,c∈css→c.length=n) (hc:cs.length=n):∀{j:Nat},j<css.length→(css.set j cs).flatten=lX css.flatten (j * n) cs:=by
  induction css with
  | nil=>intro j hj;simp at hj
  | cons d css ih=>
    intro j hj
    have hd:=hl d List.mem_cons_self
    cases j with
    | zero=>
      simp only [List.set_cons_zero,List.flatten_cons,lX,Nat.zero_mul,List.take_zero,List.nil_append,Nat.zero_add]
      rw [List.drop_append,hc,←hd,List.drop_length,Nat.sub_self,List.drop_zero,List.nil_append]
    | succ j=>
      simp only [List.set_cons_succ,List.flatten_cons]
      rw [ih (fun c hc=>hl c (List.mem_cons_of_mem _ hc)) (by simpa using hj)]
      have e1:(j+1) * n=d.length+j * n:=by rw [Nat.succ_mul,hd];omega
      have e2:(d++css.flatten).take (d.length+j * n)=d++css.flatten.take (j * n):=by
        rw [List.take_append,List.take_of_length_le (by omega),Nat.add_sub_cancel_left]
      have e3:(d++css.flatten).drop (d.length+j * n+cs.length)=css.flatten.drop (j * n+cs.length):=by
        rw [List.drop_append,List.drop_of_length_le (by omega),List.nil_append]
        congr 1;omega
      simp only [lX,e1,e2,e3,List.append_assoc]
theorem oV {α : Type} {K : Kd α} {e by_ : Nat} {xs : List α} {y : α} {cs : List Value} {ad : Addr} {n c j : Nat} {p x : Operand} {t : TypeId} {v : Value} (ho : o.op = .store t p x) (hi : (P.info? t).map (·.size) = some K.sz) (hp : Val T p (.pointer (some (ad.add (j * K.sz))))) (hx : Val T x v) (hv : v.cells.toList = cs)
    (hT:mT l [aH (bM e by_ K) xs [.slice (some ad) n c],aH K y cs] l') (hj:j<xs.length):aF5 P o T w0 S0 l (aH (bM e by_ K) (xs.set j y) [.slice (some ad) n c] :: l'):=by
  intro a w ha hw
  obtain⟨S1,⟨SA,SR,hA,hC,j1,j2,d2⟩,_,hk⟩:=(hw.takes hT).eff
  have hC':K.own w SR y cs:=hC.head (c:=aH K y cs)
  have hl:cs.length=K.sz:=wS hC'
  have hone:=K.ro_one (K.own_ro hC')
  obtain⟨i0,k1,k2⟩:=Option.map_eq_some_iff.1 hi
  rcases(show(bM e by_ K).own w SA xs [.slice (some ad) n c] from hA) with ⟨A,h,rfl⟩ |⟨g,c',css,h,h1,h2,h3,h4,h5⟩
  · simp at hj
  have h':=List.singleton_inj.1 h
  injection h' with g1 g2 g3
  obtain rfl:=Option.some.inj g1
  subst g2;subst g3
  obtain⟨B1,B2,⟨hg,cur,q1,q2,q3,q4⟩,hseq,i1,i2,dd⟩:=h5
  have hlen:=pV h4 hseq
  have hfl:css.flatten.length=xs.length * K.sz:=by rw [kE hlen,h4]
  have hbd:j * K.sz+cs.length≤css.flatten.length:=by
    rw [hl,hfl,←Nat.succ_mul];exact Nat.mul_le_mul_right _ hj
  have hst:=run_storeCells_at P g (j * K.sz) e cs 0 cur w q1 (by omega) hone
  simp only [Nat.add_zero] at hst
  have hne:∀b,b≠g→(w.setRow g (cur.toList.take (j * K.sz)++cs++cur.toList.drop (j * K.sz+cs.length)).toArray).heap[b]? =w.heap[b]? :=fun b hb=>setRow_other w g b _ hb
  refine⟨w.setRow g (cur.toList.take (j * K.sz)++cs++cur.toList.drop (j * K.sz+cs.length)).toArray,?_,hk _ [aH (bM e by_ K) (xs.set j y) [.slice (some ⟨g,0,none⟩) xs.length c]] (fun b=>SA b∨SR b) (cI.one (c:=aH (bM e by_ K) (xs.set j y) _) ?_) (fun b hb=> .inl (hb.elim (j1 b) (j2 b))) ?_⟩
  · have hsz : v.cells.size = i0.size := by rw [k2, ← hl, ← hv, Array.length_toList]
    simp only [execOp,ho,hp a ha,hx a ha]
    rw [jN]
    simp [Instr.storeAt,Instr.sureAddr,storeVar,sizeOf,typeInfo,k1,hsz,hv,hst]
  · refine .inr ⟨g, c, css.set j cs, by rw [List.length_set], by rw [List.length_set]; exact h1, h2, by rw [List.length_set]; exact h3, by rw [List.length_set, List.length_set, h4], ?_⟩
    refine⟨fun b=>b=g,fun b=>B2 b∨SR b,⟨rfl,_,setRow_heap w g cur _ e _ q1,?_,?_,?_⟩,?_,fun b hb=> .inl (hb ▸ i1 g hg),fun b hb=>hb.elim (fun h=> .inl (i2 b h)) .inr,fun b hb hb'=>by subst hb;exact hb'.elim (dd _ hg) (d2 _ (i1 _ hg))⟩
    · simp only [List.size_toArray,List.length_append,List.length_take,List.length_drop,Array.length_toList];omega
    · rw [vZ hlen hl (by omega),mM hbd];simp only [List.size_toArray,List.length_append,List.length_take,List.length_drop,Array.length_toList];omega
    · rw [vZ hlen hl (by omega), mM hbd]
      have:=xL (L:=cur.toList) (cs:=cs) (off:=j * K.sz) (n:=css.flatten.length) hbd (by rw [Array.length_toList];exact q3)
      rw [q4] at this
      exact this
    · exact aEr j (hseq.loc (fun b hb=>hne b (fun e=>dd g hg (e ▸ hb)))) (K.own_loc hC' (fun b hb=>hne b (fun e=>d2 g (i1 g hg) (e ▸ hb)))) (fun b h=> .inl h) (fun b h=> .inr h) (fun b hb=>d2 b (i2 b hb))
  · exact⟨rfl,rfl,rfl,by simp,fun b hb hn=>hne b (fun e=>hn (j1 b (e ▸ i1 g hg)))⟩
end
end Go.Proofs.YtmejbfmhaoilmaaGreatDoor
/- What is proved: an argument that was read out of memory, of a kind: what the kind says holds of its cells. No condition. -/
namespace Go.Proofs.YtmejbfmhaoilmaaGreatDoor
open Go Go.RowKit
set_option linter.unusedVariables false
set_option linter.unusedSimpArgs false
def InW (W:World):Bs:=fun b=>b<W.heap.size
section
variable {H:Type} (enc:TypeId×Value→H) (P:Program) (W:World)
def Ko {α:Type} (t:TypeId) (K:Kd α):Prop:=∀(fuel:Nat) (cs:List Value) (x:DataW H×List MemPlace),DataW.trod enc P W 0 (fun _=>true) true fuel t cs=some x→(x.1.weights P t).all (· ≤reachBytes)=true→∃y,K.ro W (InW W) y cs
def KoF {α:Type} (ps:List (TypeId×Nat)) (off:Nat) (K:Kd α):Prop:=∀(n:Nat) (cs:List Value) (xs:List (DataW H×List MemPlace)),off+K.sz≤cs.length→xs.length=ps.length→
  (∀(i:Nat) (t:TypeId) (o:Nat),ps[i]? =some (t,o)→DataW.trod enc P W 0 (fun _=>true) true n t ((cs.drop o).take (P.cellsOf t))=xs[i]?)→(DataW.weightsEach P (ps.map (·.1)) (xs.map (·.1))).all (· ≤reachBytes)=true→∃y,K.ro W (InW W) y ((cs.drop off).take K.sz)
end
section
variable {H:Type}{enc:TypeId×Value→H}{P:Program}{W:World}
theorem Ko.int {t:TypeId}{k:IntKind} (ht:P.underlying t=some (.int k)):Ko enc P W t (gS k):=fun fuel cs x h _=>by
  obtain⟨n,rfl,_,_⟩:=DataW.trod_int ht h
  exact⟨n,rfl,trivial⟩
theorem Ko.bool {t:TypeId} (ht:P.underlying t=some .bool):Ko enc P W t zL:=fun fuel cs x h _=>by
  obtain⟨n,rfl,_⟩:=DataW.trod_bool ht h
  exact⟨n,rfl,trivial⟩
theorem Ko.a {t:TypeId} (ht:P.underlying t=some (.int .u8)):Ko enc P W t vP:=fun fuel cs x h _=>by
  obtain⟨n,rfl,_,hw⟩:=DataW.trod_int ht h
  have hn:0≤n∧n<256:=by
    have h1:=of_decide_eq_true (Bool.and_eq_true_iff.1 (show(decide (IntKind.min .u8≤n) && decide (n≤IntKind.max .u8))=true from hw)).1
    have h2:=of_decide_eq_true (Bool.and_eq_true_iff.1 (show(decide (IntKind.min .u8≤n) && decide (n≤IntKind.max .u8))=true from hw)).2
    have e1:IntKind.min .u8=0:=by decide
    have e2:IntKind.max .u8=255:=by decide
    omega
  refine⟨UInt8.ofNat n.toNat,?_,trivial⟩
  have:((UInt8.ofNat n.toNat).toNat:Int)=n:=by
    rw [UInt8.toNat_ofNat'];omega
  show [Value.int .u8 n]= [Value.int .u8 ((UInt8.ofNat n.toNat).toNat:Int)]
  rw [this]
theorem aBo {β : Type} {p : Nat → β → Prop} : ∀ n, (∀ j, j < n → ∃ c, p j c) → ∃ css : List β, css.length = n ∧ ∀ j c, css[j]? = some c → p j c
  | 0,_=>⟨[],rfl,by simp⟩
  | n+1,h=>by
    obtain⟨css,h1,h2⟩:=aBo n (fun j hj=>h j (by omega))
    obtain⟨c,hc⟩:=h n (by omega)
    refine⟨css++ [c],by simp [h1],fun j d hd=> ?_⟩
    rw [List.getElem?_append] at hd
    split at hd
    · exact h2 j d hd
    · rename_i hj
      have:j - css.length=0:=by
        have:=(List.getElem?_eq_some_iff.1 hd).1
        simp at this;omega
      have e:j=n:=by omega
      subst e
      rw [h1] at hd
      simp at hd
      subst hd
      exact hc
theorem rE {e : TypeId} : ∀ {ds : List (DataW H)} {d : DataW H}, d ∈ ds → (DataW.weightsAll P e ds).all (· ≤ reachBytes) = true → (d.weights P e).all (· ≤ reachBytes) = true
  | d0 :: ds,d,hd,h=>by
    simp only [DataW.weightsAll,List.all_append,Bool.and_eq_true] at h
    rcases List.mem_cons.1 hd with rfl | hd
    · exact h.1
    · exact rE hd h.2
  | [],d,hd,_=>by cases hd
theorem Ko.slice {α:Type}{K:Kd α}{t e:TypeId}{by_:Nat} (ht:P.underlying t=some (.slice e)) (hc:P.cellsOf e=K.sz) (hb:P.bytesOf e=by_) (hK:Ko enc P W e K):Ko enc P W t (bM e by_ K):=fun fuel cs x h hw=>by
  rcases DataW.trod_slice ht h with ⟨rfl,rfl⟩ |⟨a,len,cap,elems,rest,n,rfl,rfl,rfl,hb0,hl,hm,hlen,hel,hsp,_⟩
  · exact⟨[],lF⟩
  · simp only [DataW.weights, ht, List.all_cons, List.all_append, Bool.and_eq_true, decide_eq_true_eq, List.length_map] at hw
    obtain⟨hw1,hw2,_⟩:=hw
    rw [hb] at hw1
    have each:∀j,j<len→∃y,∃ecs,K.ro W (InW W) y ecs∧InW W a.block∧∀i u,ecs[i]? =some u→W.cell? (a.add (j * K.sz+i))=some u:=by
      intro j hj
      have h1:=hel j hj
      rw [List.getElem?_eq_getElem (by omega),Option.bind_eq_some_iff] at h1
      obtain⟨ecs,h2,h3⟩:=h1
      obtain⟨y,hy⟩:=hK n ecs _ h3 (rE (List.mem_map.2 ⟨_,List.getElem_mem _,rfl⟩) hw2)
      obtain⟨_,hlen2,hcells⟩:=World.cells?_some h2
      have hsz:=K.ro_len hy
      have hcell:∀i u,ecs[i]? =some u→W.cell? (a.add (j * K.sz+i))=some u:=fun i u hu=>by
        have hi:i<P.cellsOf e:=by have:=(List.getElem?_eq_some_iff.1 hu).1;omega
        have:=hcells i hi
        rw [jA,hc] at this
        rw [this,hu]
      refine⟨y,ecs,hy,?_,hcell⟩
      have hpos:=K.pos
      have h0:=hcell 0 ecs[0] (List.getElem?_eq_getElem (by omega))
      unfold World.cell? at h0
      rw [lQ] at h0
      unfold InW
      cases hh:W.heap[a.block]? with
      | none=>rw [hh] at h0;simp at h0
      | some b=>exact(Array.getElem?_eq_some_iff.1 hh).1
    obtain⟨xs,hxl,hxs⟩:=aBo len each
    refine⟨xs,some a,cap,by rw [hxl],by rw [hxl];exact hl,hm,?_,fun hp=>⟨a,rfl,?_,fun j y hy=> ?_⟩⟩
    · have : xs.length * by_ ≤ (elems.length + rest.length) * by_ := Nat.mul_le_mul_right _ (by omega)
      unfold reachBytes at hw1
      omega
    · obtain ⟨ecs, _, h, _⟩ := hxs 0 _ (List.getElem?_eq_getElem hp)
      exact h
    · obtain ⟨ecs, h1, _, h2⟩ := hxs j y hy
      exact⟨ecs,h1,h2⟩
theorem KoF.one {α:Type}{K:Kd α}{t:TypeId}{off:Nat} (hc:P.cellsOf t=K.sz) (h:Ko enc P W t K):KoF enc P W [(t,off)] off K:=fun n cs xs hl hx hf hw=>by
  have h0:=hf 0 t off rfl
  rw [List.getElem?_eq_getElem (by simp at hx;omega),hc] at h0
  refine h n _ _ h0 ?_
  match xs,hx with
  | [x],_=>
    simp only [List.map_cons,List.map_nil,DataW.weightsEach,List.append_nil] at hw
    exact hw
theorem KoF.cons {α β:Type}{A:Kd α}{B:Kd β}{t:TypeId}{ps:List (TypeId×Nat)}{off off':Nat} (hc:P.cellsOf t=A.sz) (ho:off+A.sz=off') (h:Ko enc P W t A) (hs:KoF enc P W ps off' B):KoF enc P W ((t,off) :: ps) off (jE A B):=fun n cs xs hl hx hf hw=>by
  subst ho
  have hsz:(jE A B).sz=A.sz+B.sz:=rfl
  match xs,hx with
  | x :: xs,hx=>
    simp only [List.map_cons,DataW.weightsEach,List.all_append,Bool.and_eq_true] at hw
    have h0:=hf 0 t off rfl
    rw [List.getElem?_cons_zero,hc] at h0
    obtain⟨y1,hy1⟩:=h n _ _ h0 hw.1
    obtain⟨y2,hy2⟩:=hs n cs xs (by rw [hsz] at hl;omega) (by simpa using hx) (fun i t' o' hi=>by have:=hf (i+1) t' o' (by simpa using hi);simpa using this) hw.2
    refine⟨(y1,y2),_,_,?_,hy1,hy2⟩
    rw [hsz,List.take_add,List.drop_drop]
theorem Ko.struct {α β:Type}{K:Kd α}{t:TypeId}{fs:Array Field}{ps:List (TypeId×Nat)}{g:β→α} (ht:P.underlying t=some (.struct fs)) (hps:fs.toList.map (fun f=>(f.type,f.offset))=ps) (hc:P.cellsOf t=K.sz) (hF:KoF enc P W ps 0 K) (inv:α→β) (hg:∀y,g (inv y)=y):Ko enc P W t (aGj K g):=fun fuel cs x h hw=>by
  obtain⟨xs,n,rfl,rfl,hl,hx,hf⟩:=DataW.trod_struct ht h
  subst hps
  have hw':(DataW.weightsEach P ((fs.toList.map (fun f=>(f.type,f.offset))).map (·.1)) (xs.map (·.1))).all (· ≤reachBytes)=true:=by
    simp only [DataW.weights,ht] at hw
    rw [List.map_map]
    exact hw
  obtain⟨y,hy⟩:=hF n cs xs (by omega) (by simp [hx]) (fun i t' o hi=>by
    simp only [List.getElem?_map,Option.map_eq_some_iff] at hi
    obtain⟨f,h1,h2⟩:=hi
    obtain⟨rfl,rfl⟩:=Prod.mk.inj h2
    exact hf i f (by simpa using h1)) hw'
  refine⟨inv y,?_⟩
  show K.ro W (InW W) (g (inv y)) cs
  rw [hg]
  have:(cs.drop 0).take K.sz=cs:=by rw [List.drop_zero,List.take_of_length_le (by omega)]
  rwa [this] at hy
theorem Ko.arg {α:Type}{K:Kd α}{t:TypeId}{v:Value}{d:DataW H}{p:List MemPlace} (h:Ko enc P W t K) (hd:DataW.Trod enc P W 0 (fun _=>true) true t v d p) (hw:(d.weights P t).all (· ≤reachBytes)=true):∃y,K.ro W (FF W (fun _=>False)) y v.cells.toList:=by
  obtain⟨fuel,hf⟩:=hd
  obtain⟨y,hy⟩:=h fuel _ (d,p) hf hw
  exact⟨y,K.ro_up hy (fun b hb=>⟨hb,fun h=>h⟩)⟩
theorem Ko.g {α:Type}{K:Kd α}{t:TypeId}{v:Value}{d:DataW H}{p:List MemPlace} (h:Ko enc P W t K) (hd:DataW.Trod enc P W 0 (fun _=>true) true t v d p) (hw:(d.weights P t).all (· ≤reachBytes)=true) (ho:∃A n c,v= .slice A n c):∃y,K.ro W (FF W (fun _=>False)) y [v]:=by
  obtain⟨A,n,c,rfl⟩:=ho
  exact h.arg hd hw
theorem aGl {t:TypeId}{ts:List TypeId}{d:DataW H}{ds:List (DataW H)} (h:(DataW.weightsEach P (t :: ts) (d :: ds)).all (· ≤reachBytes)=true):(d.weights P t).all (· ≤reachBytes)=true∧(DataW.weightsEach P ts ds).all (· ≤reachBytes)=true:=by
  simp only [DataW.weightsEach,List.all_append,Bool.and_eq_true] at h
  exact h
end
theorem aJb {P:Program}{f:FuncId}{args:Array Value}{W:World} (h:Calls P f args W (aI W (fun _=>False) (fun r l=>r= .bool true∧l= []))):Calls P f args W (fun e W'=>e= .returned (.bool true)∧Below W.heap.size W W'):=
  h.mono fun e W' ⟨r,l,he,⟨hr,_⟩,⟨S,_,_,hf⟩⟩=>by
    subst hr
    exact⟨he,hf.below⟩
end Go.Proofs.YtmejbfmhaoilmaaGreatDoor
/- What is proved: from a law's walk to its row, where the row lists package-level variables and the world's shape is wanted. No condition. -/
namespace Go.Proofs.YtmejbfmhaoilmaaGreatDoor
open Go Go.RowKit
theorem yO {H : Type} {enc : TypeId × Value → H} {a : Assume} {C : Checked} {os : Os} {f : FuncId} {fn : Func} {s : ChangeSpec} {conds : List PathCond} {apart nG handsOn again : Bool} {X : World → Array Value → Prop}
    (own:ownKnob C.prog.godebug=none) (started:os.Started) (noInit:C.prog.inits.idxOf? f=none) (hfn:C.prog.funcs[f]? =some fn)
    (witness:∃(w:World) (tape:Tape) (i:Input),w.os=os∧(w.forCall tape i).Shaped C.prog∧i.vars= []∧Input.okWide C.prog (w.forCall tape i) .any w.heap.size f i∧
      ((s.pre enc C.prog fn conds apart (w.forCall tape i).memory i.args∧X (w.forCall tape i).memory i.args)∧sizedMet enc C.prog fn (OpenSpec.ofChange s) apart (w.forCall tape i).memory i.args)∧a.holds C.prog (lone (Frame.enter C.prog f i.args .normal) [] (w.forCall tape i)))
    (walk:∀(W:World) (base:Nat) (args:Array Value) (ds gs:List (DataW H)) (before:List MemPlace),
      (∀(j:Nat) t v,fn.params[j]? =some t→args[j]? =some v→Value.okWide C.prog W .any base t v)→
      DataW.Whole enc C.prog fn.params.toList s.vars apart W args.toList ds gs before→
      (DataW.weightsEach C.prog (fn.params.toList++s.plain.varTypes C.prog) (ds++gs)).all (· ≤reachBytes)=true→
      W.ShapedOpen C.prog→
      Calls C.prog f args W fun e W'=>∃v,e= .returned v∧s.post enc C.prog fn apart nG handsOn again W args v W'):
    ReturnsInHanded a C os f .any (fun w args=>(s.pre enc C.prog fn conds apart w args∧X w args)∧sizedMet enc C.prog fn (OpenSpec.ofChange s) apart w args) (s.post enc C.prog fn apart nG handsOn again):=by
  refine returnsInHanded_of_calls own started noInit witness fun w tape i _ shape _ hok hpre _=> ?_
  obtain⟨_,_,_,g,hg,_,_,_,_,hval⟩:=hok
  obtain rfl:g=fn:=Option.some.inj (hg.symm.trans hfn)
  obtain⟨⟨⟨ds,gs,before,hw,_⟩,_⟩,hz⟩:=hpre
  have hw':=DataW.Whole.of_heap (w':=w.forCall tape i) (by rfl) hw
  refine(walk _ w.heap.size i.args ds gs before hval hw' (hz.weights hw) shape).mono fun e W' ⟨v,he,hp⟩=> ?_
  subst he
  exact ChangeSpec.post_blind hp
end Go.Proofs.YtmejbfmhaoilmaaGreatDoor
/- What is proved: nothing: the data types of the plain laws. No condition. -/
namespace Go.Proofs.YtmejbfmhaoilmaaGreatDoor
structure aLw where
  frm:Int
  cnt:Int
  key:Int
  deriving DecidableEq,Inhabited
structure aFz where
  code:Int
  val:Int
  deriving DecidableEq,Inhabited
structure qD where
  code:Int
  list:List Int
  deriving DecidableEq,Inhabited
structure aDf where
  code:Int
  bytes:List UInt8
  deriving DecidableEq,Inhabited
structure aJ2 where
  code:Int
  text:ByteArray
  deriving DecidableEq,Inhabited
structure aDz where
  code:Int
  names:List ByteArray
  deriving DecidableEq,Inhabited
structure bO where
  name:ByteArray
  ino:Int
  deriving DecidableEq,Inhabited
structure aF where
  kind:Int
  links:Int
  size:Int
  blocks:List Int
  ents:List bO
  deriving DecidableEq,Inhabited
structure DFs where
  inodes:List aF
  data:List (List UInt8)
  deriving DecidableEq,Inhabited
structure RFs where
  code:Int
  fs:DFs
  deriving DecidableEq,Inhabited
structure aH8 where
  code:Int
  inode:Int
  kind:Int
  links:Int
  size:Int
  deriving DecidableEq,Inhabited
structure oD where
  kind:Int
  path:ByteArray
  to:ByteArray
  frm:Int
  size:Int
  data:List UInt8
  deriving DecidableEq,Inhabited
structure dY where
  code:Int
  reply:Int
  val:Int
  bytes:List UInt8
  names:List ByteArray
  fs:DFs
  deriving DecidableEq,Inhabited
end Go.Proofs.YtmejbfmhaoilmaaGreatDoor
/- What is proved: plain words on lists. No condition. -/
namespace Go.Proofs.YtmejbfmhaoilmaaGreatDoor
set_option linter.unusedVariables false
set_option linter.unusedSimpArgs false
def eX {α:Type} (p:α→Bool) (xs:List α):Int:=match xs.findIdx? p with | some i=>(i:Int) | none=> -1
theorem rV {α:Type}{p:α→Bool}{xs:List α}{k:Nat}{x:α} (hx:xs[k]? =some x) (hp:p x=true) (h:∀j x,j<k→xs[j]? =some x→p x=false):eX p xs=(k:Int):=by
  have:xs.findIdx? p=some k:=by
    obtain⟨hk,hxk⟩:=List.getElem?_eq_some_iff.1 hx
    rw [List.findIdx?_eq_some_iff_getElem]
    refine⟨hk,by rw [hxk];exact hp,fun j hj=> ?_⟩
    have:=h j xs[j] hj (List.getElem?_eq_getElem (by omega))
    simp [this]
  simp [eX,this]
theorem dS {α:Type}{xs:List α}{q:Nat→α→Prop}{k:Nat}{y:α} (h:∀j x,j<k→xs[j]? =some x→q j x) (hy:xs[k]? =some y) (hq:q k y):∀j x,j<k+1→xs[j]? =some x→q j x:=fun j x hj hx=>by
  rcases Nat.lt_succ_iff_lt_or_eq.1 hj with h1 | rfl
  · exact h j x h1 hx
  · rw [hy] at hx;obtain rfl:=Option.some.inj hx;exact hq
theorem eN {α:Type}{xs:List α}{q:Nat→α→Prop}:∀j x,j<0→xs[j]? =some x→q j x:=fun j _ h=>absurd h (Nat.not_lt_zero j)
theorem rT {α:Type}{p:α→Bool}{xs:List α} (h:∀(j:Nat) x,xs[j]? =some x→p x=false):eX p xs= -1:=by
  have:xs.findIdx? p=none:=by
    rw [List.findIdx?_eq_none_iff]
    intro x hx
    obtain⟨j,hj,rfl⟩:=List.mem_iff_getElem.1 hx
    exact h j _ (List.getElem?_eq_getElem hj)
  simp [eX,this]
end Go.Proofs.YtmejbfmhaoilmaaGreatDoor
/- What is proved: plain facts for the laws' own helpers: weights, copies, equality, marks. No condition. -/
namespace Go.Proofs.YtmejbfmhaoilmaaGreatDoor
set_option linter.unusedVariables false
set_option linter.unusedSimpArgs false
def gJ {α : Type} (f : α → Nat) : List α → Nat
  | []=>0
  | x :: xs=>f x+gJ f xs
theorem zM {α : Type} (f : α → Nat) : ∀ (xs : List α) (x : α), gJ f (xs ++ [x]) = gJ f xs + f x
  | [],x=>by simp [gJ]
  | y :: xs,x=>by simp only [List.cons_append,gJ,zM f xs x];omega
theorem jY {α:Type} (f:α→Nat) {xs:List α}{k:Nat}{x:α} (h:xs[k]? =some x):gJ f (xs.take (k+1))=gJ f (xs.take k)+f x:=by
  rw [List.take_add_one,h];exact zM f _ _
theorem pJ {α:Type} (f:α→Nat) {xs:List α}{k:Nat} (h:xs.length≤k):gJ f (xs.take k)=gJ f xs:=by rw [List.take_of_length_le h]
theorem uK {α : Type} (f : α → Nat) : ∀ {xs : List α} {k : Nat}, gJ f (xs.take k) ≤ gJ f xs
  | [],k=>by simp [gJ]
  | x :: xs,0=>by simp [gJ]
  | x :: xs,k+1=>by simp only [List.take_succ_cons,gJ];have:=uK f (xs:=xs) (k:=k);omega
theorem yC {α:Type} (f:α→Nat) {xs:List α}{k:Nat}{x:α} (h:xs[k]? =some x):gJ f (xs.take k)+f x≤gJ f xs:=by
  rw [←jY f h];exact uK f
end Go.Proofs.YtmejbfmhaoilmaaGreatDoor
/- What is proved: rows of one's own taken apart into bare cells and what the elements own, and put together again. No condition. -/
namespace Go.Proofs.YtmejbfmhaoilmaaGreatDoor
open Go Go.RowKit
set_option linter.unusedVariables false
set_option linter.unusedSimpArgs false

def nR (n : Nat) (hn : 0 < n) : Kd (List Value) where
  sz:=n
  pos:=hn
  ro _ _ x cs:=cs=x∧x.length=n∧∀u,u∈x→u.oneCell'=true
  own _ _ x cs:=cs=x∧x.length=n∧∀u,u∈x→u.oneCell'=true
  ro_len h:=by rw [h.1];exact h.2.1
  ro_one h u hu:=by rw [h.1] at hu;exact h.2.2 u hu
  ro_up h _:=h
  ro_loc h _:=h
  own_ro h:=h
  own_up h _:=h
  own_loc h _:=h
  own_lt h:=h
def mZ {α:Type} (K:Kd α) (xs:List α) (css:List (List Value)):Asn:=⟨cI (jQ K xs css),cI.up,cI.loc,cI.lt⟩
theorem aGh {α:Type} (K:Kd α) (x:α) (xs:List α) (c:List Value) (css:List (List Value)):jQ K (x :: xs) (c :: css)=aH K x c :: jQ K xs css:=rfl
theorem aBp {α:Type}{xs:List α}{k:Nat}{x:α} (h:xs[k]? =some x):xs.take (k+1)=xs.take k++ [x]:=by
  rw [List.take_add_one,h];rfl
theorem tE {css:List (List Value)}{k:Nat}{c c':List Value} (h:css[k]? =some c):(css.set k c')[k]? =some c':=by
  obtain⟨hk,_⟩:=List.getElem?_eq_some_iff.1 h
  exact List.getElem?_set_self hk
theorem aAx {n : Nat} {hn : 0 < n} : ∀ {css : List (List Value)}, (∀ c, c ∈ css → c.length = n ∧ ∀ u, u ∈ c → u.oneCell' = true) → ∀ (w : World) (S : Bs), cI (jQ (nR n hn) css css) w S
  | [],_,_,_=>trivial
  | c :: css,h,w,S=>⟨fun _=>False,fun _=>False,⟨rfl,h c List.mem_cons_self⟩,aAx (fun d hd=>h d (List.mem_cons_of_mem _ hd)) w _,fun _ h=>h.elim,fun _ h=>h.elim,fun _ h=>h.elim⟩
theorem aDa {n : Nat} {hn : 0 < n} : ∀ {xs css : List (List Value)} {w : World} {S : Bs}, css.length = xs.length → cI (jQ (nR n hn) xs css) w S → css = xs
  | [],[],_,_,_,_=>rfl
  | [],_ :: _,_,_,h,_=>by simp at h
  | _ :: _,[],_,_,h,_=>by simp at h
  | x :: xs,c :: css,w,S,hl,h=>by
    have h1:(nR n hn).own w S x c:=cI.head (c:=aH (nR n hn) x c) h
    rw [h1.1,aDa (by simpa using hl) (cI.drop (c:=aH (nR n hn) x c) h)]
theorem aIr {n:Nat}{hn:0<n}{css:List (List Value)}{w:World}{S:Bs} (h:cI (jQ (nR n hn) css css) w S):∀c,c∈css→c.length=n∧∀u,u∈c→u.oneCell'=true:=fun c hc=>by
  obtain⟨j,hj,rfl⟩:=List.mem_iff_getElem.1 hc
  exact(wX h (List.getElem?_eq_getElem hj) (List.getElem?_eq_getElem hj)).2
theorem aHy {α:Type}{K:Kd α}{xs:List α}{css:List (List Value)}{w:World}{S:Bs} (hl:css.length=xs.length) (h:cI (jQ K xs css) w S):∀c,c∈css→c.length=K.sz∧∀u,u∈c→u.oneCell'=true:=fun c hc=>by
  obtain⟨j,hj,rfl⟩:=List.mem_iff_getElem.1 hc
  obtain⟨y,hy⟩:=aK (xs:=xs) (j:=j) (by omega)
  have ho:=wX h hy (List.getElem?_eq_getElem hj)
  exact⟨wS ho,K.ro_one (K.own_ro ho)⟩
theorem fP {α:Type}{K:Kd α}{e by_:Nat}{xs:List α}{v:Value} (w:World) (S:Bs) (h:cI [aH (bM e by_ K) xs [v]] w S):∃css:List (List Value),css.length=xs.length∧cI [aH (bM e by_ (nR K.sz K.pos)) css [v],mZ K xs css] w S:=by
  rcases(show(bM e by_ K).own w S xs [v] from h.head (c:=aH _ _ _)) with ⟨A,hv,rfl⟩ |⟨g,c,css,hv,h1,h2,h3,h4,h5⟩
  · exact⟨[],rfl,fun _=>False,fun _=>False,.inl ⟨A,hv,rfl⟩,cI.one (c:=mZ K _ _) trivial,fun _ h=>h.elim,fun _ h=>h.elim,fun _ h=>h.elim⟩
  · obtain ⟨A, B, hA, hB, a, b, d⟩ := h5
    refine⟨css,h4,A,B,.inr ⟨g,c,css,by rw [h4];exact hv,by rw [h4];exact h1,h2,by rw [h4];exact h3,rfl,A,fun _=>False,hA,aAx (aHy h4 hB) w _,fun _ h=>h,fun _ h=>h.elim,fun _ _ h=>h⟩,cI.one (c:=mZ K _ _) hB,a,b,d⟩
theorem aEk {α:Type}{K:Kd α}{e by_:Nat}{xs:List α}{css:List (List Value)}{v:Value} (hl:css.length=xs.length) (w:World) (S:Bs) (h:cI [aH (bM e by_ (nR K.sz K.pos)) css [v],mZ K xs css] w S):(aH (bM e by_ K) xs [v]).p w S:=by
  obtain⟨A,B,hA,hB,a,b,d⟩:=h
  have hB':cI (jQ K xs css) w B:=hB.head (c:=mZ K xs css)
  rcases(show(bM e by_ (nR K.sz K.pos)).own w A css [v] from hA) with ⟨A0,hv,rfl⟩ |⟨g,c,cs2,hv,h1,h2,h3,h4,h5⟩
  · obtain rfl := List.eq_nil_of_length_eq_zero (show xs.length = 0 from hl.symm)
    exact .inl ⟨A0,hv,rfl⟩
  · obtain ⟨C, D, hC, hD, i, j, dd⟩ := h5
    obtain rfl:=aDa h4 hD
    exact .inr ⟨g,c,_,by rw [hl] at hv;exact hv,by rw [hl] at h1;exact h1,h2,by rw [hl] at h3;exact h3,hl,C,B,hC,hB',fun x hx=>a x (i x hx),b,fun x hx=>d x (i x hx)⟩
def fY {α:Type} (xs:List α) (a b:Nat):List α:=(xs.take b).drop a
theorem gH {α:Type}{xs:List α}{a b:Nat} (hb:b≤xs.length):(fY xs a b).length=b - a:=by simp [fY,Nat.min_eq_left hb]
theorem aGv {α:Type}{xs:List α}{a b j:Nat}{x:α} (h:(fY xs a b)[j]? =some x):xs[a+j]? =some x:=by
  unfold fY at h
  rw [List.getElem?_drop,List.getElem?_take] at h
  split at h
  · exact h
  · cases h
theorem aD2 {α:Type} (xs:List α) (q:Nat):fY xs 0 q++fY xs (q+1) xs.length=xs.eraseIdx q:=by
  rw [List.eraseIdx_eq_take_drop_succ];simp [fY]
theorem aH2 {α:Type}{K:Kd α}{e by_:Nat}{w:World}{F:Bs}{xs:List α}{A:Option Addr}{n c:Nat} (h:(bM e by_ K).ro w F xs [.slice A n c]):0<xs.length→∃ad,A=some ad∧yN K w F ad xs:=fun hp=>by
  obtain⟨A',c',hv,_,_,_,h4⟩:=aD h
  obtain⟨ad,ha,hr⟩:=h4 hp
  injection hv with h1 _ _
  exact⟨ad,h1.trans ha,hr⟩
theorem nD {α:Type}{K:Kd α}{e by_:Nat}{w:World}{F:Bs}{xs:List α}{A A':Option Addr}{c a b:Nat} (hA:A'=(if c=a then A else A.map (·.add (a * K.sz)))) (h:(bM e by_ K).ro w F xs [.slice A xs.length c]) (hab:a≤b) (hb:b≤xs.length):(bM e by_ K).ro w F (fY xs a b) [.slice A' (fY xs a b).length (c - a)]:=by
  obtain⟨A0,c0,hv,h1,h2,h3,h4⟩:=aD h
  injection hv with e1 e2 e3
  subst e1;subst e3
  have hl:=gH (a:=a) hb
  refine⟨A',c - a,rfl,by rw [hl];omega,by omega,by rw [hl];have:(b - a) * by_≤xs.length * by_:=Nat.mul_le_mul_right _ (by omega);omega,fun hp=> ?_⟩
  rw [hl] at hp
  obtain⟨ad,rfl,hF,hr⟩:=h4 (by omega)
  rw [if_neg (by omega)] at hA
  refine⟨ad.add (a * K.sz),hA,by rw [lQ];exact hF,fun j x hx=> ?_⟩
  obtain⟨ecs,k1,k2⟩:=hr (a+j) x (aGv hx)
  refine⟨ecs,k1,fun i u hu=> ?_⟩
  rw [jA,show a * K.sz+(j * K.sz+i)=(a+j) * K.sz+i by rw [Nat.add_mul];omega]
  exact k2 i u hu
theorem eV.wide {α:Type}{K:Kd α}{w w':World}{F F':Bs}{ad:Addr}{x:α} (h:eV K w F ad x) (hw:∀b,F b→F' b∧w'.heap[b]? =w.heap[b]?):eV K w' F' ad x:=by
  obtain⟨ecs,h1,h2,h3⟩:=h
  exact⟨ecs,(hw _ h1).1,K.ro_up (K.ro_loc h2 (fun b hb=>(hw b hb).2)) (fun b hb=>(hw b hb).1),fun i u hu=>(tP (by rw [lQ];exact(hw _ h1).2)).trans (h3 i u hu)⟩
section
variable {P:Program}{T:eR}{Wd:World→Prop}{o:Oper}{N:Nat}{w0:World}{S0:Bs}{l l' lk:List Asn}
theorem jT {α : Type} {xs : List α} {x : Operand} {t e : TypeId} {sz : Nat} {lo hi : Option Operand} {a b c : Nat} {A A' : Option Addr} (ho : o.op = .slice t x lo hi none) (ht : P.underlying t = some (.slice e)) (he : (P.info? e).map (·.size) = some sz) (hx : Val T x (.slice A xs.length c)) (hA : A' = (if c = a then A else A.map (·.add (a * sz))))
    (hlo:(lo=none∧a=0)∨∃z k,lo=some z∧Val T z (.int k (a:Int))) (hhi:(hi=none∧b=xs.length)∨∃z k,hi=some z∧Val T z (.int k (b:Int))) (h1:a≤b) (h2:b≤xs.length) (h3:xs.length≤c):
    eO P o T Wd (.slice A' (fY xs a b).length (c - a)):=by
  rw [gH h2,hA]
  exact aD9 ho ht he hx hlo hhi h1 (Nat.le_trans h2 h3)
theorem WS.j {n:Nat}{hn:0<n}{e by_:Nat}{css:List (List Value)}{ad:Addr}{m c j i:Nat}{cs:List Value}{u:Value} (ht:fG l (aH (bM e by_ (nR n hn)) css [.slice (some ad) m c]) l') (hc:css[j]? =some cs) (hu:cs[i]? =some u):∀w,WS w0 S0 l w→w.cell? ((ad.add (j * n)).add i)=some u:=fun w hw=>by
  obtain⟨S,hs,_,_⟩:=hw.take ht
  obtain⟨A',c',h,_,_,_,h4⟩:=aD ((bM e by_ (nR n hn)).own_ro (show(bM e by_ (nR n hn)).own w S css _ from hs.head))
  obtain⟨ad',ha,hr⟩:=h4 (by have:=(List.getElem?_eq_some_iff.1 hc).1;omega)
  injection h with g1 g2 g3
  rw [ha] at g1
  obtain rfl:=Option.some.inj g1
  obtain⟨ecs,⟨rfl,_⟩,_,hcc⟩:=hr.elem hc
  exact hcc i _ hu
theorem aDs {fl cs:List Value}{off:Nat} (h:∀u,u∈fl→u.oneCell'=true) (h2:∀u,u∈cs→u.oneCell'=true):∀u,u∈lX fl off cs→u.oneCell'=true:=fun u hu=>by
  unfold lX at hu
  rcases List.mem_append.1 hu with hu | hu
  · rcases List.mem_append.1 hu with hu | hu
    · exact h u (List.mem_of_mem_take hu)
    · exact h2 u hu
  · exact h u (List.mem_of_mem_drop hu)
theorem vS {css:List (List Value)}{n:Nat}{c cs:List Value}{off:Nat} (hl:∀c,c∈css→c.length=n) (hb:off+cs.length≤n):∀{j:Nat},css[j]? =some c→lX css.flatten (j * n+off) cs=(css.set j (lX c off cs)).flatten:=by
  induction css with
  | nil=>intro j hj;simp at hj
  | cons d css ih=>
    intro j hj
    have hd:=hl d List.mem_cons_self
    cases j with
    | zero=>
      simp at hj;subst hj
      simp only [List.set_cons_zero,List.flatten_cons,lX,Nat.zero_mul,Nat.zero_add]
      rw [List.take_append_of_le_length (by omega),List.drop_append_of_le_length (by omega)]
      simp only [List.append_assoc]
    | succ j=>
      simp only [List.set_cons_succ,List.flatten_cons]
      rw [←ih (fun c hc=>hl c (List.mem_cons_of_mem _ hc)) (by simpa using hj)]
      have e1:(j+1) * n+off=d.length+(j * n+off):=by rw [Nat.succ_mul,hd];omega
      have e2:(d++css.flatten).take (d.length+(j * n+off))=d++css.flatten.take (j * n+off):=by
        rw [List.take_append,List.take_of_length_le (by omega),Nat.add_sub_cancel_left]
      have e3:(d++css.flatten).drop (d.length+(j * n+off)+cs.length)=css.flatten.drop (j * n+off+cs.length):=by
        rw [List.drop_append,List.drop_of_length_le (by omega),List.nil_append]
        congr 1;omega
      simp only [lX,e1,e2,e3,List.append_assoc]
theorem kU {n : Nat} {hn : 0 < n} {e by_ : Nat} {css : List (List Value)} {c0 cs : List Value} {ad : Addr} {m c j off : Nat} {p x : Operand} {t : TypeId} {v : Value} {B : Addr} (ho : o.op = .store t p x) (hi : (P.info? t).map (·.size) = some cs.length) (hp : Val T p (.pointer (some B))) (hB : B = ad.add (j * n + off)) (hx : Val T x v) (hv : v.cells.toList = cs)
    (h1:∀u,u∈cs→u.oneCell'=true) (hT:fG l (aH (bM e by_ (nR n hn)) css [.slice (some ad) m c]) l') (hj:css[j]? =some c0) (hb:off+cs.length≤n):aF5 P o T w0 S0 l (aH (bM e by_ (nR n hn)) (css.set j (lX c0 off cs)) [.slice (some ad) m c] :: l'):=by
  intro a w ha hw
  subst hB
  obtain⟨S1,hA,_,hk⟩:=(hw.takes (.c hT .n)).eff
  have hA':(bM e by_ (nR n hn)).own w S1 css [.slice (some ad) m c]:=hA.head (c:=aH _ _ _)
  obtain⟨i0,k1,k2⟩:=Option.map_eq_some_iff.1 hi
  rcases hA' with ⟨A,h,rfl⟩ |⟨g,c',css',h,h1',h2,h3,h4,h5⟩
  · simp at hj
  have h':=List.singleton_inj.1 h
  injection h' with g1 g2 g3
  obtain rfl:=Option.some.inj g1
  subst g2;subst g3
  obtain⟨B1,B2,⟨hg,cur,q1,q2,q3,q4⟩,hseq,i1,i2,dd⟩:=h5
  have he:=aDa h4 hseq
  rw [he] at hseq q3 q4
  have hraw:=aIr hseq
  have hlen:∀d,d∈css→d.length=n:=fun d hd=>(hraw d hd).1
  have hfl:css.flatten.length=css.length * n:=kE hlen
  have hjl:=(List.getElem?_eq_some_iff.1 hj).1
  have hc0:=hlen c0 (List.mem_of_getElem? hj)
  have hmul:(j+1) * n≤css.length * n:=Nat.mul_le_mul_right _ hjl
  rw [Nat.succ_mul] at hmul
  have hbd:j * n+off+cs.length≤css.flatten.length:=by rw [hfl];omega
  have hsz:(nR n hn).sz=n:=rfl
  rw [hsz] at q2
  have hst:=run_storeCells_at P g (j * n+off) e cs 0 cur w q1 (by omega) h1
  simp only [Nat.add_zero] at hst
  have hne:∀b,b≠g→(w.setRow g (cur.toList.take (j * n+off)++cs++cur.toList.drop (j * n+off+cs.length)).toArray).heap[b]? =w.heap[b]? :=fun b hb=>setRow_other w g b _ hb
  refine⟨w.setRow g (cur.toList.take (j * n+off)++cs++cur.toList.drop (j * n+off+cs.length)).toArray,?_,hk _ [aH (bM e by_ (nR n hn)) (css.set j (lX c0 off cs)) [.slice (some ⟨g,0,none⟩) css.length c]] S1 (cI.one (c:=aH (bM e by_ (nR n hn)) _ _) ?_) (fun b hb=> .inl hb) ?_⟩
  · have hsz : v.cells.size = i0.size := by rw [k2, ← hv, Array.length_toList]
    simp only [execOp,ho,hp a ha,hx a ha]
    rw [jN]
    simp [Instr.storeAt,Instr.sureAddr,storeVar,sizeOf,typeInfo,k1,hsz,hv,hst]
  · refine .inr ⟨g, c, css.set j (lX c0 off cs), by rw [List.length_set], by rw [List.length_set]; exact h1', h2, by rw [List.length_set]; exact h3, rfl, ?_⟩
    refine⟨fun b=>b=g,fun b=>False,⟨rfl,_,setRow_heap w g cur _ e _ q1,?_,?_,?_⟩,aAx (fun d hd=> ?_) _ _,fun b hb=>hb ▸ i1 g hg,fun b hb=>hb.elim,fun b hb hb'=>hb'⟩
    · simp only [List.size_toArray,List.length_append,List.length_take,List.length_drop,Array.length_toList,hsz];omega
    · rw [←vS hlen hb hj,mM hbd];simp only [List.size_toArray,List.length_append,List.length_take,List.length_drop,Array.length_toList];omega
    · rw [← vS hlen hb hj, mM hbd]
      have:=xL (L:=cur.toList) (cs:=cs) (off:=j * n+off) (n:=css.flatten.length) hbd (by rw [Array.length_toList];exact q3)
      rw [q4] at this
      exact this
    · rcases List.mem_or_eq_of_mem_set hd with hd | rfl
      · exact hraw d hd
      · exact⟨by rw [mM (by omega)];exact hc0,aDs (hraw c0 (List.mem_of_getElem? hj)).2 h1⟩
  · exact⟨rfl,rfl,rfl,by simp,fun b hb hn'=>hne b (fun e=>hn' (e ▸ i1 g hg))⟩
theorem eA {t e:TypeId}{sz:Nat}{z:Value} (ho:o.op= .buildSlice t 0 #[]) (ht:P.underlying t=some (.slice e)) (he:(P.info? e).map (fun i=>(i.size,i.zero))=some (sz,some z)):Eff P o T w0 S0 l (fun r l'=>∃g,r= .slice (some ⟨g,0,none⟩) 0 0∧l'=bV g e sz 0 [] :: l):=by
  intro a w ha hw
  obtain⟨i0,h1,h2⟩:=Option.map_eq_some_iff.1 he
  obtain⟨h2,h3⟩:=Prod.mk.inj h2
  refine⟨.slice (some ⟨w.heap.size,0,none⟩) 0 0,w.alloc (.cells #[] e),_,?_,⟨_,rfl,rfl⟩,hw.new #[] e sz 0 (by simp)⟩
  simp only [execOp,ho]
  simp [Instr.buildSlice,run_underlying ht,sizeOf,typeInfo,h1,h2,h3,newRow,Instr.fill]
  have h0:Array.range 0= #[]:=by apply Array.ext <;> simp
  rw [h0,Array.map_empty]
theorem aQ {t e : TypeId} {len sz : Nat} {parts : Array (Nat × Operand)} {ps : List (Nat × Value)} {z : Value} {zc cs : List Value} (ho : o.op = .buildSlice t len parts) (ht : P.underlying t = some (.slice e)) (he : (P.info? e).map (fun i => (i.size, i.zero)) = some (sz, some z)) (hlen : len * sz ≤ 16777216)
    (hps:∀a:Act,Holds T a→(parts.map fun(i,x)=>(i,a.eval x))=ps.toArray) (hz:z.cells.toList=zc) (hzl:zc.length=sz) (hpos:0<sz) (hfill:Instr.fill (fun i=>some (i * sz,sz)) (List.replicate len zc).flatten.toArray ps=some cs.toArray) (hcs:cs.length=len * sz):
    Eff P o T w0 S0 l (fun r l'=>∃g,r= .slice (some ⟨g,0,none⟩) len len∧l'=bV g e sz len cs :: l):=by
  subst hz
  refine aAo ho ht he hlen hps ?_ hcs
  rw [←hfill]
  congr 1
  have hzs:z.cells.size=sz:=by rw [←hzl,Array.length_toList]
  by_cases h0:len * sz=0
  · have hl : len = 0 := by rcases Nat.mul_eq_zero.1 h0 with h | h <;> omega
    subst hl
    apply Array.ext <;> simp
  · simp only [if_neg h0]
    apply Array.toList_inj.1
    have:=nQ z.cells len (by omega)
    rw [hzs] at this
    rw [←this]
    rfl
theorem fS {α:Type}{enc:α→Value}{ok:α→Prop}{h1:∀x,(enc x).oneCell'=true}{e by_ g n:Nat}{xs:List α}{w:World}{S:Bs} (h:cI [bV g e 1 n (xs.map enc)] w S) (hn:xs.length=n) (hok:∀x,x∈xs→ok x) (hb:n * by_≤140737488355328) (h63:n≤9223372036854775807):(aH (bM e by_ (mO enc ok h1)) xs [.slice (some ⟨g,0,none⟩) n n]).p w S:=by
  subst hn
  have hfl:∀ys:List α,(ys.map fun x=> [enc x]).flatten=ys.map enc:=fun ys=>by
    induction ys with
    | nil=>rfl
    | cons x ys ih=>simp only [List.map_cons,List.flatten_cons,ih];rfl
  refine .inr ⟨g,xs.length,xs.map (fun x=> [enc x]),rfl,Nat.le_refl _,h63,hb,by simp,S,fun _=>False,by rw [hfl];exact h.head (c:=bV g e 1 xs.length (xs.map enc)),?_,fun _ h=>h,fun _ h=>h.elim,fun _ _ h=>h⟩
  clear hfl hb h63 h
  induction xs with
  | nil=>trivial
  | cons x xs ih=>exact⟨fun _=>False,fun _=>False,⟨rfl,hok x List.mem_cons_self⟩,ih (fun y hy=>hok y (List.mem_cons_of_mem _ hy)),fun _ h=>h.elim,fun _ h=>h.elim,fun _ h=>h.elim⟩
theorem aKn {α:Type}{xs:List α}{A:Option Addr}{p:Addr→Prop} (h:0<xs.length→∃ad,A=some ad∧p ad) (hA:Option.isNone A=true):([]:List α)=xs:=by
  cases xs with
  | nil=>rfl
  | cons x xs=>obtain⟨ad,rfl,_⟩:=h (by simp);cases hA
theorem aLq {fl cs:List Value}{k:Nat} (hk:cs.length=k) (h:fl.take k=cs):∀(i:Nat) (u:Value),cs[i]? =some u→fl[i]? =some u:=fun i u hu=>by
  rw [←h,List.getElem?_take] at hu
  split at hu
  · exact hu
  · cases hu
end
end Go.Proofs.YtmejbfmhaoilmaaGreatDoor
/- What is proved: marks as texts and bytes. No condition. -/
namespace Go.Proofs.YtmejbfmhaoilmaaGreatDoor
open Go Go.RowKit
set_option linter.unusedVariables false
def xE (n:Int):UInt8:=UInt8.ofNat (n % 256).toNat
theorem aD7 (n:Int):IntKind.u8.wrap n=((xE n).toNat:Int):=by
  rw [IntKind.wrap_u8]
  unfold xE
  rw [UInt8.toNat_ofNat']
  omega
def kR (xs:List UInt8):ByteArray:=⟨xs.toArray⟩
end Go.Proofs.YtmejbfmhaoilmaaGreatDoor

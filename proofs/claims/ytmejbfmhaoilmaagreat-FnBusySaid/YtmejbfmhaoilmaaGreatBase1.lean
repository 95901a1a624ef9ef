/- What is proved: an argument that was read out of memory, of a kind: what the kind says holds of its cells. No condition. -/
import Derived.Test.YtmejbfmhaoilmaaGreatBase0
import Derived.ChangeArms
import Derived.SizedLaws
import Derived.OpenShut
import Derived.ChangeMaps5
import Derived.Tactics
import Derived.Lib.SlicesCompact
import Derived.Sort.Row
import Derived.Sort.Grow
import Derived.Lib.SplitLaws
import Derived.Lib.Join
namespace Go.Proofs.YtmejbfmhaoilmaaGreat
open Go Go.RowKit
set_option linter.unusedVariables false
set_option linter.unusedSimpArgs false
def InW (W:World):Bs:=fun b=>b<W.heap.size
section
variable {H:Type} (enc:TypeId×Value→H) (P:Program) (W:World)
def Ko {α:Type} (t:TypeId) (K:Kd α):Prop:=∀(fuel:Nat) (cs:List Value) (x:DataW H×List MemPlace),DataW.trod enc P W 0 (fun _=>true) true fuel t cs=some x→(x.1.weights P t).all (· ≤reachBytes)=true→∃y,K.ro W (InW W) y cs
def KoF {α:Type} (ps:List (TypeId×Nat)) (off:Nat) (K:Kd α):Prop:=∀(n:Nat) (cs:List Value) (xs:List (DataW H×List MemPlace)),off+K.sz≤cs.length→xs.length=ps.length→
  (∀(i:Nat) (t:TypeId) (o:Nat),ps[i]? =some (t,o)→DataW.trod enc P W 0 (fun _=>true) true n t ((cs.drop o).take (P.cellsOf t))=xs[i]?)→(DataW.weightsEach P (ps.map (·.1)) (xs.map (·.1))).all (· ≤reachBytes)=true→∃y,K.ro W (InW W) y ((cs.drop off).take K.sz)
end
section
variable {H:Type}{enc:TypeId×Value→H}{P:Program}{W:World}
theorem Ko.int {t:TypeId}{k:IntKind} (ht:P.underlying t=some (.int k)):Ko enc P W t (gV k):=fun fuel cs x h _=>by
  obtain⟨n,rfl,_,_⟩:=DataW.trod_int ht h
  exact⟨n,rfl,trivial⟩
theorem Ko.bool {t:TypeId} (ht:P.underlying t=some .bool):Ko enc P W t yF:=fun fuel cs x h _=>by
  obtain⟨n,rfl,_⟩:=DataW.trod_bool ht h
  exact⟨n,rfl,trivial⟩
theorem Ko.a {t:TypeId} (ht:P.underlying t=some (.int .u8)):Ko enc P W t qB:=fun fuel cs x h _=>by
  obtain⟨n,rfl,_,hw⟩:=DataW.trod_int ht h
  have hn:0≤n∧n<256:=by
    have h1:=of_decide_eq_true (Bool.and_eq_true_iff.1 (show(decide (IntKind.min .u8≤n) && decide (n≤IntKind.max .u8))=true from hw)).1
    have h2:=of_decide_eq_true (Bool.and_eq_true_iff.1 (show(decide (IntKind.min .u8≤n) && decide (n≤IntKind.max .u8))=true from hw)).2
    have e1:IntKind.min .u8=0:=by decide
    have e2:IntKind.max .u8=255:=by decide
    omega
  refine⟨UInt8.ofNat n.toNat,?_,trivial⟩
  have:((UInt8.ofNat n.toNat).toNat:Int)=n:=by
    rw [UInt8.toNat_ofNat'];omega
  show [Value.int .u8 n]= [Value.int .u8 ((UInt8.ofNat n.toNat).toNat:Int)]
  rw [this]
theorem aA4 {β : Type} {p : Nat → β → Prop} : ∀ n, (∀ j, j < n → ∃ c, p j c) → ∃ css : List β, css.length = n ∧ ∀ j c, css[j]? = some c → p j c
  | 0,_=>⟨[],rfl,by simp⟩
  | n+1,h=>by
    obtain⟨css,h1,h2⟩:=aA4 n (fun j hj=>h j (by omega))
    obtain⟨c,hc⟩:=h n (by omega)
    refine⟨css++ [c],by simp [h1],fun j d hd=> ?_⟩
    rw [List.getElem?_append] at hd
    split at hd
    · exact h2 j d hd
    · rename_i hj
      have:j - css.length=0:=by
        have:=(List.getElem?_eq_some_iff.1 hd).1
        simp at this;omega
      have e:j=n:=by omega
      subst e
      rw [h1] at hd
      simp at hd
      subst hd
      exact hc
theorem rC {e : TypeId} : ∀ {ds : List (DataW H)} {d : DataW H}, d ∈ ds → (DataW.weightsAll P e ds).all (· ≤ reachBytes) = true → (d.weights P e).all (· ≤ reachBytes) = true
  | d0 :: ds,d,hd,h=>by
    simp only [DataW.weightsAll,List.all_append,Bool.and_eq_true] at h
    rcases List.mem_cons.1 hd with rfl | hd
    · exact h.1
    · exact rC hd h.2
  | [],d,hd,_=>by cases hd
theorem Ko.slice {α:Type}{K:Kd α}{t e:TypeId}{by_:Nat} (ht:P.underlying t=some (.slice e)) (hc:P.cellsOf e=K.sz) (hb:P.bytesOf e=by_) (hK:Ko enc P W e K):Ko enc P W t (bQ e by_ K):=fun fuel cs x h hw=>by
  rcases DataW.trod_slice ht h with ⟨rfl,rfl⟩ |⟨a,len,cap,elems,rest,n,rfl,rfl,rfl,hb0,hl,hm,hlen,hel,hsp,_⟩
  · exact⟨[],lZ⟩
  · simp only [DataW.weights, ht, List.all_cons, List.all_append, Bool.and_eq_true, decide_eq_true_eq, List.length_map] at hw
    obtain⟨hw1,hw2,_⟩:=hw
    rw [hb] at hw1
    have each:∀j,j<len→∃y,∃ecs,K.ro W (InW W) y ecs∧InW W a.block∧∀i u,ecs[i]? =some u→W.cell? (a.add (j * K.sz+i))=some u:=by
      intro j hj
      have h1:=hel j hj
      rw [List.getElem?_eq_getElem (by omega),Option.bind_eq_some_iff] at h1
      obtain⟨ecs,h2,h3⟩:=h1
      obtain⟨y,hy⟩:=hK n ecs _ h3 (rC (List.mem_map.2 ⟨_,List.getElem_mem _,rfl⟩) hw2)
      obtain⟨_,hlen2,hcells⟩:=World.cells?_some h2
      have hsz:=K.ro_len hy
      have hcell:∀i u,ecs[i]? =some u→W.cell? (a.add (j * K.sz+i))=some u:=fun i u hu=>by
        have hi:i<P.cellsOf e:=by have:=(List.getElem?_eq_some_iff.1 hu).1;omega
        have:=hcells i hi
        rw [iK,hc] at this
        rw [this,hu]
      refine⟨y,ecs,hy,?_,hcell⟩
      have hpos:=K.pos
      have h0:=hcell 0 ecs[0] (List.getElem?_eq_getElem (by omega))
      unfold World.cell? at h0
      rw [kS] at h0
      unfold InW
      cases hh:W.heap[a.block]? with
      | none=>rw [hh] at h0;simp at h0
      | some b=>exact(Array.getElem?_eq_some_iff.1 hh).1
    obtain⟨xs,hxl,hxs⟩:=aA4 len each
    refine⟨xs,some a,cap,by rw [hxl],by rw [hxl];exact hl,hm,?_,fun hp=>⟨a,rfl,?_,fun j y hy=> ?_⟩⟩
    · have : xs.length * by_ ≤ (elems.length + rest.length) * by_ := Nat.mul_le_mul_right _ (by omega)
      unfold reachBytes at hw1
      omega
    · obtain ⟨ecs, _, h, _⟩ := hxs 0 _ (List.getElem?_eq_getElem hp)
      exact h
    · obtain ⟨ecs, h1, _, h2⟩ := hxs j y hy
      exact⟨ecs,h1,h2⟩
theorem KoF.one {α:Type}{K:Kd α}{t:TypeId}{off:Nat} (hc:P.cellsOf t=K.sz) (h:Ko enc P W t K):KoF enc P W [(t,off)] off K:=fun n cs xs hl hx hf hw=>by
  have h0:=hf 0 t off rfl
  rw [List.getElem?_eq_getElem (by simp at hx;omega),hc] at h0
  refine h n _ _ h0 ?_
  match xs,hx with
  | [x],_=>
    simp only [List.map_cons,List.map_nil,DataW.weightsEach,List.append_nil] at hw
    exact hw
theorem KoF.cons {α β:Type}{A:Kd α}{B:Kd β}{t:TypeId}{ps:List (TypeId×Nat)}{off off':Nat} (hc:P.cellsOf t=A.sz) (ho:off+A.sz=off') (h:Ko enc P W t A) (hs:KoF enc P W ps off' B):KoF enc P W ((t,off) :: ps) off (jF A B):=fun n cs xs hl hx hf hw=>by
  subst ho
  have hsz:(jF A B).sz=A.sz+B.sz:=rfl
  match xs,hx with
  | x :: xs,hx=>
    simp only [List.map_cons,DataW.weightsEach,List.all_append,Bool.and_eq_true] at hw
    have h0:=hf 0 t off rfl
    rw [List.getElem?_cons_zero,hc] at h0
    obtain⟨y1,hy1⟩:=h n _ _ h0 hw.1
    obtain⟨y2,hy2⟩:=hs n cs xs (by rw [hsz] at hl;omega) (by simpa using hx) (fun i t' o' hi=>by have:=hf (i+1) t' o' (by simpa using hi);simpa using this) hw.2
    refine⟨(y1,y2),_,_,?_,hy1,hy2⟩
    rw [hsz,List.take_add,List.drop_drop]
theorem Ko.struct {α β:Type}{K:Kd α}{t:TypeId}{fs:Array Field}{ps:List (TypeId×Nat)}{g:β→α} (ht:P.underlying t=some (.struct fs)) (hps:fs.toList.map (fun f=>(f.type,f.offset))=ps) (hc:P.cellsOf t=K.sz) (hF:KoF enc P W ps 0 K) (inv:α→β) (hg:∀y,g (inv y)=y):Ko enc P W t (aE4 K g):=fun fuel cs x h hw=>by
  obtain⟨xs,n,rfl,rfl,hl,hx,hf⟩:=DataW.trod_struct ht h
  subst hps
  have hw':(DataW.weightsEach P ((fs.toList.map (fun f=>(f.type,f.offset))).map (·.1)) (xs.map (·.1))).all (· ≤reachBytes)=true:=by
    simp only [DataW.weights,ht] at hw
    rw [List.map_map]
    exact hw
  obtain⟨y,hy⟩:=hF n cs xs (by omega) (by simp [hx]) (fun i t' o hi=>by
    simp only [List.getElem?_map,Option.map_eq_some_iff] at hi
    obtain⟨f,h1,h2⟩:=hi
    obtain⟨rfl,rfl⟩:=Prod.mk.inj h2
    exact hf i f (by simpa using h1)) hw'
  refine⟨inv y,?_⟩
  show K.ro W (InW W) (g (inv y)) cs
  rw [hg]
  have:(cs.drop 0).take K.sz=cs:=by rw [List.drop_zero,List.take_of_length_le (by omega)]
  rwa [this] at hy
theorem Ko.arg {α:Type}{K:Kd α}{t:TypeId}{v:Value}{d:DataW H}{p:List MemPlace} (h:Ko enc P W t K) (hd:DataW.Trod enc P W 0 (fun _=>true) true t v d p) (hw:(d.weights P t).all (· ≤reachBytes)=true):∃y,K.ro W (FF W (fun _=>False)) y v.cells.toList:=by
  obtain⟨fuel,hf⟩:=hd
  obtain⟨y,hy⟩:=h fuel _ (d,p) hf hw
  exact⟨y,K.ro_up hy (fun b hb=>⟨hb,fun h=>h⟩)⟩
theorem Ko.g {α:Type}{K:Kd α}{t:TypeId}{v:Value}{d:DataW H}{p:List MemPlace} (h:Ko enc P W t K) (hd:DataW.Trod enc P W 0 (fun _=>true) true t v d p) (hw:(d.weights P t).all (· ≤reachBytes)=true) (ho:∃A n c,v= .slice A n c):∃y,K.ro W (FF W (fun _=>False)) y [v]:=by
  obtain⟨A,n,c,rfl⟩:=ho
  exact h.arg hd hw
theorem aEm {t:TypeId}{ts:List TypeId}{d:DataW H}{ds:List (DataW H)} (h:(DataW.weightsEach P (t :: ts) (d :: ds)).all (· ≤reachBytes)=true):(d.weights P t).all (· ≤reachBytes)=true∧(DataW.weightsEach P ts ds).all (· ≤reachBytes)=true:=by
  simp only [DataW.weightsEach,List.all_append,Bool.and_eq_true] at h
  exact h
end
theorem aIh {P:Program}{f:FuncId}{args:Array Value}{W:World} (h:Calls P f args W (aI W (fun _=>False) (fun r l=>r= .bool true∧l= []))):Calls P f args W (fun e W'=>e= .returned (.bool true)∧Below W.heap.size W W'):=
  h.mono fun e W' ⟨r,l,he,⟨hr,_⟩,⟨S,_,_,hf⟩⟩=>by
    subst hr
    exact⟨he,hf.below⟩
end Go.Proofs.YtmejbfmhaoilmaaGreat
/- What is proved: short names of the rules that walks use most. No condition. -/
namespace Go.Proofs.YtmejbfmhaoilmaaGreat
open Go Go.RowKit
set_option linter.unusedVariables false
theorem Get.g1 {α:Type}{q0 p:α}{l:List α}:Get (q0 :: p :: l) p:= .s .z
theorem Er.g1 {α:Type}{q0 p:α}{l:List α}:Er (q0 :: p :: l) p (q0 :: l):= .s .z
theorem fK.g1 {q0 p:Asn}{l:List Asn}:fK (q0 :: p :: l) p (q0 :: l):= .s .z
theorem Sb.g1 {q0:Asn}{l:List Asn}:Sb (q0 :: l) l:= .s .z
theorem mP.g1 {q0 u v:Value}{l:List Value}:mP (q0 :: u :: l) 1 v (q0 :: v :: l):= .s .z
theorem Get.g2 {α:Type}{q0 q1 p:α}{l:List α}:Get (q0 :: q1 :: p :: l) p:= .s (.s .z)
theorem Er.g2 {α:Type}{q0 q1 p:α}{l:List α}:Er (q0 :: q1 :: p :: l) p (q0 :: q1 :: l):= .s (.s .z)
theorem fK.g2 {q0 q1 p:Asn}{l:List Asn}:fK (q0 :: q1 :: p :: l) p (q0 :: q1 :: l):= .s (.s .z)
theorem Sb.g2 {q0 q1:Asn}{l:List Asn}:Sb (q0 :: q1 :: l) l:= .s (.s .z)
theorem mP.g2 {q0 q1 u v:Value}{l:List Value}:mP (q0 :: q1 :: u :: l) 2 v (q0 :: q1 :: v :: l):= .s (.s .z)
theorem Get.g3 {α:Type}{q0 q1 q2 p:α}{l:List α}:Get (q0 :: q1 :: q2 :: p :: l) p:= .s (.s (.s .z))
theorem Er.g3 {α:Type}{q0 q1 q2 p:α}{l:List α}:Er (q0 :: q1 :: q2 :: p :: l) p (q0 :: q1 :: q2 :: l):= .s (.s (.s .z))
theorem fK.g3 {q0 q1 q2 p:Asn}{l:List Asn}:fK (q0 :: q1 :: q2 :: p :: l) p (q0 :: q1 :: q2 :: l):= .s (.s (.s .z))
theorem Sb.g3 {q0 q1 q2:Asn}{l:List Asn}:Sb (q0 :: q1 :: q2 :: l) l:= .s (.s (.s .z))
theorem mP.g3 {q0 q1 q2 u v:Value}{l:List Value}:mP (q0 :: q1 :: q2 :: u :: l) 3 v (q0 :: q1 :: q2 :: v :: l):= .s (.s (.s .z))
theorem Get.g4 {α:Type}{q0 q1 q2 q3 p:α}{l:List α}:Get (q0 :: q1 :: q2 :: q3 :: p :: l) p:= .s (.s (.s (.s .z)))
theorem Er.g4 {α:Type}{q0 q1 q2 q3 p:α}{l:List α}:Er (q0 :: q1 :: q2 :: q3 :: p :: l) p (q0 :: q1 :: q2 :: q3 :: l):= .s (.s (.s (.s .z)))
theorem fK.g4 {q0 q1 q2 q3 p:Asn}{l:List Asn}:fK (q0 :: q1 :: q2 :: q3 :: p :: l) p (q0 :: q1 :: q2 :: q3 :: l):= .s (.s (.s (.s .z)))
theorem Sb.g4 {q0 q1 q2 q3:Asn}{l:List Asn}:Sb (q0 :: q1 :: q2 :: q3 :: l) l:= .s (.s (.s (.s .z)))
theorem mP.g4 {q0 q1 q2 q3 u v:Value}{l:List Value}:mP (q0 :: q1 :: q2 :: q3 :: u :: l) 4 v (q0 :: q1 :: q2 :: q3 :: v :: l):= .s (.s (.s (.s .z)))
theorem Get.g5 {α:Type}{q0 q1 q2 q3 q4 p:α}{l:List α}:Get (q0 :: q1 :: q2 :: q3 :: q4 :: p :: l) p:= .s (.s (.s (.s (.s .z))))
theorem Er.g5 {α:Type}{q0 q1 q2 q3 q4 p:α}{l:List α}:Er (q0 :: q1 :: q2 :: q3 :: q4 :: p :: l) p (q0 :: q1 :: q2 :: q3 :: q4 :: l):= .s (.s (.s (.s (.s .z))))
theorem fK.g5 {q0 q1 q2 q3 q4 p:Asn}{l:List Asn}:fK (q0 :: q1 :: q2 :: q3 :: q4 :: p :: l) p (q0 :: q1 :: q2 :: q3 :: q4 :: l):= .s (.s (.s (.s (.s .z))))
theorem Sb.g5 {q0 q1 q2 q3 q4:Asn}{l:List Asn}:Sb (q0 :: q1 :: q2 :: q3 :: q4 :: l) l:= .s (.s (.s (.s (.s .z))))
theorem mP.g5 {q0 q1 q2 q3 q4 u v:Value}{l:List Value}:mP (q0 :: q1 :: q2 :: q3 :: q4 :: u :: l) 5 v (q0 :: q1 :: q2 :: q3 :: q4 :: v :: l):= .s (.s (.s (.s (.s .z))))
theorem Get.g6 {α:Type}{q0 q1 q2 q3 q4 q5 p:α}{l:List α}:Get (q0 :: q1 :: q2 :: q3 :: q4 :: q5 :: p :: l) p:= .s (.s (.s (.s (.s (.s .z)))))
theorem Er.g6 {α:Type}{q0 q1 q2 q3 q4 q5 p:α}{l:List α}:Er (q0 :: q1 :: q2 :: q3 :: q4 :: q5 :: p :: l) p (q0 :: q1 :: q2 :: q3 :: q4 :: q5 :: l):= .s (.s (.s (.s (.s (.s .z)))))
theorem fK.g6 {q0 q1 q2 q3 q4 q5 p:Asn}{l:List Asn}:fK (q0 :: q1 :: q2 :: q3 :: q4 :: q5 :: p :: l) p (q0 :: q1 :: q2 :: q3 :: q4 :: q5 :: l):= .s (.s (.s (.s (.s (.s .z)))))
theorem Sb.g6 {q0 q1 q2 q3 q4 q5:Asn}{l:List Asn}:Sb (q0 :: q1 :: q2 :: q3 :: q4 :: q5 :: l) l:= .s (.s (.s (.s (.s (.s .z)))))
theorem mP.g6 {q0 q1 q2 q3 q4 q5 u v:Value}{l:List Value}:mP (q0 :: q1 :: q2 :: q3 :: q4 :: q5 :: u :: l) 6 v (q0 :: q1 :: q2 :: q3 :: q4 :: q5 :: v :: l):= .s (.s (.s (.s (.s (.s .z)))))
theorem Get.g7 {α:Type}{q0 q1 q2 q3 q4 q5 q6 p:α}{l:List α}:Get (q0 :: q1 :: q2 :: q3 :: q4 :: q5 :: q6 :: p :: l) p:= .s (.s (.s (.s (.s (.s (.s .z))))))
theorem Er.g7 {α:Type}{q0 q1 q2 q3 q4 q5 q6 p:α}{l:List α}:Er (q0 :: q1 :: q2 :: q3 :: q4 :: q5 :: q6 :: p :: l) p (q0 :: q1 :: q2 :: q3 :: q4 :: q5 :: q6 :: l):= .s (.s (.s (.s (.s (.s (.s .z))))))
theorem fK.g7 {q0 q1 q2 q3 q4 q5 q6 p:Asn}{l:List Asn}:fK (q0 :: q1 :: q2 :: q3 :: q4 :: q5 :: q6 :: p :: l) p (q0 :: q1 :: q2 :: q3 :: q4 :: q5 :: q6 :: l):= .s (.s (.s (.s (.s (.s (.s .z))))))
theorem Sb.g7 {q0 q1 q2 q3 q4 q5 q6:Asn}{l:List Asn}:Sb (q0 :: q1 :: q2 :: q3 :: q4 :: q5 :: q6 :: l) l:= .s (.s (.s (.s (.s (.s (.s .z))))))
theorem mP.g7 {q0 q1 q2 q3 q4 q5 q6 u v:Value}{l:List Value}:mP (q0 :: q1 :: q2 :: q3 :: q4 :: q5 :: q6 :: u :: l) 7 v (q0 :: q1 :: q2 :: q3 :: q4 :: q5 :: q6 :: v :: l):= .s (.s (.s (.s (.s (.s (.s .z))))))
theorem Get.g8 {α:Type}{q0 q1 q2 q3 q4 q5 q6 q7 p:α}{l:List α}:Get (q0 :: q1 :: q2 :: q3 :: q4 :: q5 :: q6 :: q7 :: p :: l) p:= .s (.s (.s (.s (.s (.s (.s (.s .z)))))))
theorem Er.g8 {α:Type}{q0 q1 q2 q3 q4 q5 q6 q7 p:α}{l:List α}:Er (q0 :: q1 :: q2 :: q3 :: q4 :: q5 :: q6 :: q7 :: p :: l) p (q0 :: q1 :: q2 :: q3 :: q4 :: q5 :: q6 :: q7 :: l):= .s (.s (.s (.s (.s (.s (.s (.s .z)))))))
theorem fK.g8 {q0 q1 q2 q3 q4 q5 q6 q7 p:Asn}{l:List Asn}:fK (q0 :: q1 :: q2 :: q3 :: q4 :: q5 :: q6 :: q7 :: p :: l) p (q0 :: q1 :: q2 :: q3 :: q4 :: q5 :: q6 :: q7 :: l):= .s (.s (.s (.s (.s (.s (.s (.s .z)))))))
theorem Sb.g8 {q0 q1 q2 q3 q4 q5 q6 q7:Asn}{l:List Asn}:Sb (q0 :: q1 :: q2 :: q3 :: q4 :: q5 :: q6 :: q7 :: l) l:= .s (.s (.s (.s (.s (.s (.s (.s .z)))))))
theorem mP.g8 {q0 q1 q2 q3 q4 q5 q6 q7 u v:Value}{l:List Value}:mP (q0 :: q1 :: q2 :: q3 :: q4 :: q5 :: q6 :: q7 :: u :: l) 8 v (q0 :: q1 :: q2 :: q3 :: q4 :: q5 :: q6 :: q7 :: v :: l):= .s (.s (.s (.s (.s (.s (.s (.s .z)))))))
theorem Get.g9 {α:Type}{q0 q1 q2 q3 q4 q5 q6 q7 q8 p:α}{l:List α}:Get (q0 :: q1 :: q2 :: q3 :: q4 :: q5 :: q6 :: q7 :: q8 :: p :: l) p:= .s (.s (.s (.s (.s (.s (.s (.s (.s .z))))))))
theorem Er.g9 {α:Type}{q0 q1 q2 q3 q4 q5 q6 q7 q8 p:α}{l:List α}:Er (q0 :: q1 :: q2 :: q3 :: q4 :: q5 :: q6 :: q7 :: q8 :: p :: l) p (q0 :: q1 :: q2 :: q3 :: q4 :: q5 :: q6 :: q7 :: q8 :: l):= .s (.s (.s (.s (.s (.s (.s (.s (.s .z))))))))
theorem fK.g9 {q0 q1 q2 q3 q4 q5 q6 q7 q8 p:Asn}{l:List Asn}:fK (q0 :: q1 :: q2 :: q3 :: q4 :: q5 :: q6 :: q7 :: q8 :: p :: l) p (q0 :: q1 :: q2 :: q3 :: q4 :: q5 :: q6 :: q7 :: q8 :: l):= .s (.s (.s (.s (.s (.s (.s (.s (.s .z))))))))
theorem Sb.g9 {q0 q1 q2 q3 q4 q5 q6 q7 q8:Asn}{l:List Asn}:Sb (q0 :: q1 :: q2 :: q3 :: q4 :: q5 :: q6 :: q7 :: q8 :: l) l:= .s (.s (.s (.s (.s (.s (.s (.s (.s .z))))))))
theorem Get.g10 {α:Type}{q0 q1 q2 q3 q4 q5 q6 q7 q8 q9 p:α}{l:List α}:Get (q0 :: q1 :: q2 :: q3 :: q4 :: q5 :: q6 :: q7 :: q8 :: q9 :: p :: l) p:= .s (.s (.s (.s (.s (.s (.s (.s (.s (.s .z)))))))))
theorem Er.g10 {α:Type}{q0 q1 q2 q3 q4 q5 q6 q7 q8 q9 p:α}{l:List α}:Er (q0 :: q1 :: q2 :: q3 :: q4 :: q5 :: q6 :: q7 :: q8 :: q9 :: p :: l) p (q0 :: q1 :: q2 :: q3 :: q4 :: q5 :: q6 :: q7 :: q8 :: q9 :: l):= .s (.s (.s (.s (.s (.s (.s (.s (.s (.s .z)))))))))
theorem fK.g10 {q0 q1 q2 q3 q4 q5 q6 q7 q8 q9 p:Asn}{l:List Asn}:fK (q0 :: q1 :: q2 :: q3 :: q4 :: q5 :: q6 :: q7 :: q8 :: q9 :: p :: l) p (q0 :: q1 :: q2 :: q3 :: q4 :: q5 :: q6 :: q7 :: q8 :: q9 :: l):= .s (.s (.s (.s (.s (.s (.s (.s (.s (.s .z)))))))))
theorem Sb.g10 {q0 q1 q2 q3 q4 q5 q6 q7 q8 q9:Asn}{l:List Asn}:Sb (q0 :: q1 :: q2 :: q3 :: q4 :: q5 :: q6 :: q7 :: q8 :: q9 :: l) l:= .s (.s (.s (.s (.s (.s (.s (.s (.s (.s .z)))))))))
theorem Get.g11 {α:Type}{q0 q1 q2 q3 q4 q5 q6 q7 q8 q9 q10 p:α}{l:List α}:Get (q0 :: q1 :: q2 :: q3 :: q4 :: q5 :: q6 :: q7 :: q8 :: q9 :: q10 :: p :: l) p:= .s (.s (.s (.s (.s (.s (.s (.s (.s (.s (.s .z))))))))))
theorem Er.g11 {α:Type}{q0 q1 q2 q3 q4 q5 q6 q7 q8 q9 q10 p:α}{l:List α}:Er (q0 :: q1 :: q2 :: q3 :: q4 :: q5 :: q6 :: q7 :: q8 :: q9 :: q10 :: p :: l) p (q0 :: q1 :: q2 :: q3 :: q4 :: q5 :: q6 :: q7 :: q8 :: q9 :: q10 :: l):= .s (.s (.s (.s (.s (.s (.s (.s (.s (.s (.s .z))))))))))
theorem fK.g11 {q0 q1 q2 q3 q4 q5 q6 q7 q8 q9 q10 p:Asn}{l:List Asn}:fK (q0 :: q1 :: q2 :: q3 :: q4 :: q5 :: q6 :: q7 :: q8 :: q9 :: q10 :: p :: l) p (q0 :: q1 :: q2 :: q3 :: q4 :: q5 :: q6 :: q7 :: q8 :: q9 :: q10 :: l):= .s (.s (.s (.s (.s (.s (.s (.s (.s (.s (.s .z))))))))))
theorem Sb.g11 {q0 q1 q2 q3 q4 q5 q6 q7 q8 q9 q10:Asn}{l:List Asn}:Sb (q0 :: q1 :: q2 :: q3 :: q4 :: q5 :: q6 :: q7 :: q8 :: q9 :: q10 :: l) l:= .s (.s (.s (.s (.s (.s (.s (.s (.s (.s (.s .z))))))))))
theorem Get.g12 {α:Type}{q0 q1 q2 q3 q4 q5 q6 q7 q8 q9 q10 q11 p:α}{l:List α}:Get (q0 :: q1 :: q2 :: q3 :: q4 :: q5 :: q6 :: q7 :: q8 :: q9 :: q10 :: q11 :: p :: l) p:= .s (.s (.s (.s (.s (.s (.s (.s (.s (.s (.s (.s .z)))))))))))
theorem Er.g12 {α:Type}{q0 q1 q2 q3 q4 q5 q6 q7 q8 q9 q10 q11 p:α}{l:List α}:Er (q0 :: q1 :: q2 :: q3 :: q4 :: q5 :: q6 :: q7 :: q8 :: q9 :: q10 :: q11 :: p :: l) p (q0 :: q1 :: q2 :: q3 :: q4 :: q5 :: q6 :: q7 :: q8 :: q9 :: q10 :: q11 :: l):= .s (.s (.s (.s (.s (.s (.s (.s (.s (.s (.s (.s .z)))))))))))
theorem fK.g12 {q0 q1 q2 q3 q4 q5 q6 q7 q8 q9 q10 q11 p:Asn}{l:List Asn}:fK (q0 :: q1 :: q2 :: q3 :: q4 :: q5 :: q6 :: q7 :: q8 :: q9 :: q10 :: q11 :: p :: l) p (q0 :: q1 :: q2 :: q3 :: q4 :: q5 :: q6 :: q7 :: q8 :: q9 :: q10 :: q11 :: l):= .s (.s (.s (.s (.s (.s (.s (.s (.s (.s (.s (.s .z)))))))))))
theorem Sb.g12 {q0 q1 q2 q3 q4 q5 q6 q7 q8 q9 q10 q11:Asn}{l:List Asn}:Sb (q0 :: q1 :: q2 :: q3 :: q4 :: q5 :: q6 :: q7 :: q8 :: q9 :: q10 :: q11 :: l) l:= .s (.s (.s (.s (.s (.s (.s (.s (.s (.s (.s (.s .z)))))))))))
theorem Get.g13 {α:Type}{q0 q1 q2 q3 q4 q5 q6 q7 q8 q9 q10 q11 q12 p:α}{l:List α}:Get (q0 :: q1 :: q2 :: q3 :: q4 :: q5 :: q6 :: q7 :: q8 :: q9 :: q10 :: q11 :: q12 :: p :: l) p:= .s (.s (.s (.s (.s (.s (.s (.s (.s (.s (.s (.s (.s .z))))))))))))
theorem Er.g13 {α:Type}{q0 q1 q2 q3 q4 q5 q6 q7 q8 q9 q10 q11 q12 p:α}{l:List α}:Er (q0 :: q1 :: q2 :: q3 :: q4 :: q5 :: q6 :: q7 :: q8 :: q9 :: q10 :: q11 :: q12 :: p :: l) p (q0 :: q1 :: q2 :: q3 :: q4 :: q5 :: q6 :: q7 :: q8 :: q9 :: q10 :: q11 :: q12 :: l):= .s (.s (.s (.s (.s (.s (.s (.s (.s (.s (.s (.s (.s .z))))))))))))
theorem fK.g13 {q0 q1 q2 q3 q4 q5 q6 q7 q8 q9 q10 q11 q12 p:Asn}{l:List Asn}:fK (q0 :: q1 :: q2 :: q3 :: q4 :: q5 :: q6 :: q7 :: q8 :: q9 :: q10 :: q11 :: q12 :: p :: l) p (q0 :: q1 :: q2 :: q3 :: q4 :: q5 :: q6 :: q7 :: q8 :: q9 :: q10 :: q11 :: q12 :: l):= .s (.s (.s (.s (.s (.s (.s (.s (.s (.s (.s (.s (.s .z))))))))))))
theorem Sb.g13 {q0 q1 q2 q3 q4 q5 q6 q7 q8 q9 q10 q11 q12:Asn}{l:List Asn}:Sb (q0 :: q1 :: q2 :: q3 :: q4 :: q5 :: q6 :: q7 :: q8 :: q9 :: q10 :: q11 :: q12 :: l) l:= .s (.s (.s (.s (.s (.s (.s (.s (.s (.s (.s (.s (.s .z))))))))))))
theorem Get.g14 {α:Type}{q0 q1 q2 q3 q4 q5 q6 q7 q8 q9 q10 q11 q12 q13 p:α}{l:List α}:Get (q0 :: q1 :: q2 :: q3 :: q4 :: q5 :: q6 :: q7 :: q8 :: q9 :: q10 :: q11 :: q12 :: q13 :: p :: l) p:= .s (.s (.s (.s (.s (.s (.s (.s (.s (.s (.s (.s (.s (.s .z)))))))))))))
theorem Er.g14 {α:Type}{q0 q1 q2 q3 q4 q5 q6 q7 q8 q9 q10 q11 q12 q13 p:α}{l:List α}:Er (q0 :: q1 :: q2 :: q3 :: q4 :: q5 :: q6 :: q7 :: q8 :: q9 :: q10 :: q11 :: q12 :: q13 :: p :: l) p (q0 :: q1 :: q2 :: q3 :: q4 :: q5 :: q6 :: q7 :: q8 :: q9 :: q10 :: q11 :: q12 :: q13 :: l):= .s (.s (.s (.s (.s (.s (.s (.s (.s (.s (.s (.s (.s (.s .z)))))))))))))
theorem fK.g14 {q0 q1 q2 q3 q4 q5 q6 q7 q8 q9 q10 q11 q12 q13 p:Asn}{l:List Asn}:fK (q0 :: q1 :: q2 :: q3 :: q4 :: q5 :: q6 :: q7 :: q8 :: q9 :: q10 :: q11 :: q12 :: q13 :: p :: l) p (q0 :: q1 :: q2 :: q3 :: q4 :: q5 :: q6 :: q7 :: q8 :: q9 :: q10 :: q11 :: q12 :: q13 :: l):= .s (.s (.s (.s (.s (.s (.s (.s (.s (.s (.s (.s (.s (.s .z)))))))))))))
theorem Sb.g14 {q0 q1 q2 q3 q4 q5 q6 q7 q8 q9 q10 q11 q12 q13:Asn}{l:List Asn}:Sb (q0 :: q1 :: q2 :: q3 :: q4 :: q5 :: q6 :: q7 :: q8 :: q9 :: q10 :: q11 :: q12 :: q13 :: l) l:= .s (.s (.s (.s (.s (.s (.s (.s (.s (.s (.s (.s (.s (.s .z)))))))))))))
theorem Get.g15 {α:Type}{q0 q1 q2 q3 q4 q5 q6 q7 q8 q9 q10 q11 q12 q13 q14 p:α}{l:List α}:Get (q0 :: q1 :: q2 :: q3 :: q4 :: q5 :: q6 :: q7 :: q8 :: q9 :: q10 :: q11 :: q12 :: q13 :: q14 :: p :: l) p:= .s (.s (.s (.s (.s (.s (.s (.s (.s (.s (.s (.s (.s (.s (.s .z))))))))))))))
theorem Er.g15 {α:Type}{q0 q1 q2 q3 q4 q5 q6 q7 q8 q9 q10 q11 q12 q13 q14 p:α}{l:List α}:Er (q0 :: q1 :: q2 :: q3 :: q4 :: q5 :: q6 :: q7 :: q8 :: q9 :: q10 :: q11 :: q12 :: q13 :: q14 :: p :: l) p (q0 :: q1 :: q2 :: q3 :: q4 :: q5 :: q6 :: q7 :: q8 :: q9 :: q10 :: q11 :: q12 :: q13 :: q14 :: l):= .s (.s (.s (.s (.s (.s (.s (.s (.s (.s (.s (.s (.s (.s (.s .z))))))))))))))
theorem fK.g15 {q0 q1 q2 q3 q4 q5 q6 q7 q8 q9 q10 q11 q12 q13 q14 p:Asn}{l:List Asn}:fK (q0 :: q1 :: q2 :: q3 :: q4 :: q5 :: q6 :: q7 :: q8 :: q9 :: q10 :: q11 :: q12 :: q13 :: q14 :: p :: l) p (q0 :: q1 :: q2 :: q3 :: q4 :: q5 :: q6 :: q7 :: q8 :: q9 :: q10 :: q11 :: q12 :: q13 :: q14 :: l):= .s (.s (.s (.s (.s (.s (.s (.s (.s (.s (.s (.s (.s (.s (.s .z))))))))))))))
theorem Sb.g15 {q0 q1 q2 q3 q4 q5 q6 q7 q8 q9 q10 q11 q12 q13 q14:Asn}{l:List Asn}:Sb (q0 :: q1 :: q2 :: q3 :: q4 :: q5 :: q6 :: q7 :: q8 :: q9 :: q10 :: q11 :: q12 :: q13 :: q14 :: l) l:= .s (.s (.s (.s (.s (.s (.s (.s (.s (.s (.s (.s (.s (.s (.s .z))))))))))))))
theorem Get.g16 {α:Type}{q0 q1 q2 q3 q4 q5 q6 q7 q8 q9 q10 q11 q12 q13 q14 q15 p:α}{l:List α}:Get (q0 :: q1 :: q2 :: q3 :: q4 :: q5 :: q6 :: q7 :: q8 :: q9 :: q10 :: q11 :: q12 :: q13 :: q14 :: q15 :: p :: l) p:= .s (.s (.s (.s (.s (.s (.s (.s (.s (.s (.s (.s (.s (.s (.s (.s .z)))))))))))))))
theorem Er.g16 {α:Type}{q0 q1 q2 q3 q4 q5 q6 q7 q8 q9 q10 q11 q12 q13 q14 q15 p:α}{l:List α}:Er (q0 :: q1 :: q2 :: q3 :: q4 :: q5 :: q6 :: q7 :: q8 :: q9 :: q10 :: q11 :: q12 :: q13 :: q14 :: q15 :: p :: l) p (q0 :: q1 :: q2 :: q3 :: q4 :: q5 :: q6 :: q7 :: q8 :: q9 :: q10 :: q11 :: q12 :: q13 :: q14 :: q15 :: l):= .s (.s (.s (.s (.s (.s (.s (.s (.s (.s (.s (.s (.s (.s (.s (.s .z)))))))))))))))
theorem fK.g16 {q0 q1 q2 q3 q4 q5 q6 q7 q8 q9 q10 q11 q12 q13 q14 q15 p:Asn}{l:List Asn}:fK (q0 :: q1 :: q2 :: q3 :: q4 :: q5 :: q6 :: q7 :: q8 :: q9 :: q10 :: q11 :: q12 :: q13 :: q14 :: q15 :: p :: l) p (q0 :: q1 :: q2 :: q3 :: q4 :: q5 :: q6 :: q7 :: q8 :: q9 :: q10 :: q11 :: q12 :: q13 :: q14 :: q15 :: l):= .s (.s (.s (.s (.s (.s (.s (.s (.s (.s (.s (.s (.s (.s (.s (.s .z)))))))))))))))
theorem Sb.g16 {q0 q1 q2 q3 q4 q5 q6 q7 q8 q9 q10 q11 q12 q13 q14 q15:Asn}{l:List Asn}:Sb (q0 :: q1 :: q2 :: q3 :: q4 :: q5 :: q6 :: q7 :: q8 :: q9 :: q10 :: q11 :: q12 :: q13 :: q14 :: q15 :: l) l:= .s (.s (.s (.s (.s (.s (.s (.s (.s (.s (.s (.s (.s (.s (.s (.s .z)))))))))))))))
section
variable {N:Nat}{w0:World}{S0:Bs}{F:Act→World→Prop}{T:eX}{l l':List Asn}{P:Program}{Q:Exit→Act→World→Prop}{o:Oper}{ops:Array Oper}{rest:List Oper}{d:Nat}
theorem aBb {v : Value} : ∀ {l : List Value} {n : Nat}, n < l.length → mP l n v (l.set n v)
  | _ :: _,0,_=> .z
  | _ :: _,n+1,h=> .s (aBb (by simpa using h))
  | [],_,h=>by simp at h
theorem aDo : ∀ {pre cs fl : List Value}, fl.length = cs.length → sU (pre ++ fl) pre.length cs (pre ++ cs)
  | pre,[],[],_=>by simpa using sU.n
  | pre,c :: cs,f :: fl,h=>by
    have h1:mP (pre++f :: fl) pre.length c ((pre++ [c])++fl):=by
      have:=aBb (v:=c) (l:=pre++f :: fl) (n:=pre.length) (by simp)
      simpa [List.set_append] using this
    have h2:=aDo (pre:=pre++ [c]) (cs:=cs) (fl:=fl) (by simpa using h)
    refine .c h1 ?_
    simpa using h2
  | _,[],_ :: _,h=>by simp at h
  | _,_ :: _,[],h=>by simp at h
theorem aF7 {fl cs:List Value} (h:cs.length=fl.length):sU fl 0 cs cs:=by simpa using aDo (pre:= []) h.symm
theorem qW {x:Operand}{t:TypeId}{g e sz c:Nat}{fl:List Value} (ho:o.op= .load t x) (hg:eN P t true) (hx:Val T x (.pointer (some ⟨g,0,none⟩))) (ht:fK l (bZ g e sz c fl) l') (hi:(P.info? t).map (·.size)=some fl.length):eT P o T (WS w0 S0 l) (.agg fl.toArray):=
  nF ho hg hi hx (WS.v ht fun _ _ h=>h)
theorem qE {x:Operand}{t:TypeId}{B:Addr}{ecs:List Value} (ho:o.op= .load t x) (hg:eN P t true) (hx:Val T x (.pointer (some B))) (hF:FF w0 S0 B.block) (hc:∀(i:Nat) (u:Value),ecs[i]? =some u→w0.cell? (B.add i)=some u) (hi:(P.info? t).map (·.size)=some ecs.length):eT P o T (WS w0 S0 l) (.agg ecs.toArray):=
  nF ho hg hi hx (WS.aa hF hc)
theorem esW {p x:Operand}{t:TypeId}{g e sz c:Nat}{fl cs:List Value} (ho:o.op= .store t p x) (hp:Val T p (.pointer (some ⟨g,0,none⟩))) (hx:Val T x (.agg cs.toArray)) (hT:fK l (bZ g e sz c fl) l') (hi:(P.info? t).map (·.size)=some cs.length) (h1:cs.all (·.oneCell')=true) (hl:Nat.beq cs.length fl.length=true):aEr P o T w0 S0 l (bZ g e sz c cs :: l'):=
  qR (off:=0) ho hi (by rw [jN];exact hp) hx (by rfl) (nJ h1) hT (by have:=Nat.eq_of_beq_eq_true hl;omega) (aF7 (Nat.eq_of_beq_eq_true hl))
theorem es1 {p x : Operand} {t : TypeId} {v : Value} {g e sz c off : Nat} {fl fl' : List Value} (ho : o.op = .store t p x) (hi : (P.info? t).map (·.size) = some 1) (hp : Val T p (.pointer (some ((⟨g, 0, none⟩ : Addr).add off)))) (hx : Val T x v) (hv : v.cells.toList = [v])
    (h1:v.oneCell'=true) (hT:fK l (bZ g e sz c fl) l') (hb:Nat.blt off fl.length=true) (hq:mP fl off v fl'):aEr P o T w0 S0 l (bZ g e sz c fl' :: l'):=
  qR (cs:= [v]) ho hi hp hx hv (fun u hu=>by obtain rfl:=List.mem_singleton.1 hu;exact h1) hT (Nat.le_of_ble_eq_true hb) (.c hq .n)
theorem dA {fn:Func}{s ty g e sz c:Nat}{cs:List Value} (hr:fn.results= #[.cell s ty]) (h:Get T (s,.pointer (some ⟨g,0,none⟩))) (hg:eN P ty true) (ht:fK l (bZ g e sz c cs) l') (hi:(P.info? ty).map (·.size)=some cs.length):
    ∀(a:Act) (w:World),Holds T a→WS w0 S0 l w→(results fn a.tmps).run P w= .ok (.agg cs.toArray) w:=aKl hr h hg hi (WS.v ht fun _ _ h=>h)
theorem pv0:∀a:Act,Holds T a→((#[]:Array (Nat×Operand)).map fun(i,x)=>(i,a.eval x))=([]:List (Nat×Value)).toArray:=fun _ _=>by simp
theorem pv1 {i:Nat}{x:Operand}{v:Value} (h:Val T x v):∀a:Act,Holds T a→((#[(i,x)]:Array (Nat×Operand)).map fun(i,x)=>(i,a.eval x))= [(i,v)].toArray:=fun a ha=>by simp [h a ha]
theorem pv2 {i j:Nat}{x y:Operand}{v u:Value} (h:Val T x v) (k:Val T y u):∀a:Act,Holds T a→((#[(i,x),(j,y)]:Array (Nat×Operand)).map fun(i,x)=>(i,a.eval x))= [(i,v),(j,u)].toArray:=fun a ha=>by simp [h a ha,k a ha]
theorem pv3 {i j m:Nat}{x y z:Operand}{v u r:Value} (h:Val T x v) (k:Val T y u) (q:Val T z r):∀a:Act,Holds T a→((#[(i,x),(j,y),(m,z)]:Array (Nat×Operand)).map fun(i,x)=>(i,a.eval x))= [(i,v),(j,u),(m,r)].toArray:=fun a ha=>by simp [h a ha,k a ha,q a ha]
theorem pv4 {i j m n:Nat}{x y z p:Operand}{v u r s:Value} (h:Val T x v) (k:Val T y u) (q:Val T z r) (q':Val T p s):∀a:Act,Holds T a→((#[(i,x),(j,y),(m,z),(n,p)]:Array (Nat×Operand)).map fun(i,x)=>(i,a.eval x))= [(i,v),(j,u),(m,r),(n,s)].toArray:=fun a ha=>by simp [h a ha,k a ha,q a ha,q' a ha]
theorem Y.mv {s:Nat}{v:Value} (hk:okd o N T=some d) (h:Get T (s,v)) (k:Y N w0 S0 (wpList P ops Q rest) ((d,v) :: T) l) (ho:o.op= .move (.tmp s):=by exact rfl):Y N w0 S0 (wpList P ops Q (o :: rest)) T l:=Y.ql hk (aS ho (.t h)) k
theorem Y.as {s:Nat}{v:Value} (hk:okd o N T=some d) (h:Get T (s,v)) (k:Y N w0 S0 (wpList P ops Q rest) ((d,v) :: T) l) (ho:o.op= .assign (.tmp s):=by exact rfl):Y N w0 S0 (wpList P ops Q (o :: rest)) T l:=Y.ql hk (aA ho (.t h)) k
theorem Y.fa {s : Nat} {t : TypeId} {f off : Nat} {ad : Addr} (hk : okd o N T = some d) (h : Get T (s, .pointer (some ad))) (hs : ∀ (ad : Addr) (w : World), (Instr.fieldAt t (.pointer (some ad)) f).run P w = .ok (.pointer (some (ad.add off))) w)
    (k:Y N w0 S0 (wpList P ops Q rest) ((d,.pointer (some (ad.add off))) :: T) l) (ho:o.op= .fieldAddr t (.tmp s) f:=by exact rfl):Y N w0 S0 (wpList P ops Q (o :: rest)) T l:=Y.ql hk (aL ho (.t h) (hs ad)) k
theorem Y.ld {s : Nat} {t : TypeId} {g e sz c i : Nat} {fl : List Value} {v : Value} (hk : okd o N T = some d) (hg : eN P t false) (h : Get T (s, .pointer (some ((⟨g, 0, none⟩ : Addr).add i)))) (ht : fK l (bZ g e sz c fl) l')
    (k:Y N w0 S0 (wpList P ops Q rest) ((d,v) :: T) l) (ho:o.op= .load t (.tmp s):=by exact rfl) (hv:fl[i]? =some v:=by exact rfl):Y N w0 S0 (wpList P ops Q (o :: rest)) T l:=Y.ql hk (aN ho hg (.t h) (WS.g ht hv)) k
theorem Y.le {s : Nat} {t : TypeId} {B : Addr} {ecs : List Value} {i : Nat} {v : Value} (hk : okd o N T = some d) (hg : eN P t false) (h : Get T (s, .pointer (some (B.add i)))) (hF : FF w0 S0 B.block) (hc : ∀ (i : Nat) (u : Value), ecs[i]? = some u → w0.cell? (B.add i) = some u)
    (k:Y N w0 S0 (wpList P ops Q rest) ((d,v) :: T) l) (ho:o.op= .load t (.tmp s):=by exact rfl) (hv:ecs[i]? =some v:=by exact rfl):Y N w0 S0 (wpList P ops Q (o :: rest)) T l:=Y.ql hk (aN ho hg (.t h) (WS.el hF hc hv)) k
theorem xM {d:Nat} (h:okd o N T=some d):o.guard=none∧o.dst=some d∧d<N∧oX d T=true:=by
  unfold okd at h
  cases hd:o.dst with
  | none=>rw [hd] at h;cases h
  | some d'=>
    rw [hd] at h
    simp only at h
    cases hc:(o.guard.isNone && Nat.blt d' N && oX d' T) with
    | false=>rw [hc] at h;cases h
    | true=>
      rw [hc] at h
      obtain rfl:=Option.some.inj h
      simp only [Bool.and_eq_true,Option.isNone_iff_eq_none] at hc
      exact⟨hc.1.1,rfl,Nat.le_of_ble_eq_true hc.1.2,hc.2⟩
theorem Y.cl {f : FuncId} {fn : Func} {as_ : Array Operand} {ts : Array TypeId} {args : Array Value} {lc lr : List Asn} {R : Value → List Asn → Prop} (hk : okd o N T = some d) (ho : o.op = .call { callee := .value (.func f), args := as_, argTypes := ts }) (hf : P.funcs[f]? = some fn) (hb : fn.body.isSome = true) (hn : (fn.name == "runtime.NumGoroutine") = false)
    (ha:∀a:Act,Holds T a→as_.map a.eval=args) (hT:mW l lc lr) (ht:∀w S1,cJ lc w S1→Tr w0 S0 w S1 lr→Calls P f args w (aI w S1 R)) (h:∀v l',R v l'→Y N w0 S0 (wpList P ops Q rest) ((d,v) :: T) (l'++lr)):Y N w0 S0 (wpList P ops Q (o :: rest)) T l:=by
  obtain⟨h1,h2,h3,h4⟩:=xM hk
  exact Y.call (aE h1) h2 h3 h4 (bF ho hf hb hn ha) hT ht h
theorem Y.el {R:Value→List Asn→Prop} (hk:okd o N T=some d) (he:Eff P o T w0 S0 l R) (h:∀v l',R v l'→Y N w0 S0 (wpList P ops Q rest) ((d,v) :: T) l'):Y N w0 S0 (wpList P ops Q (o :: rest)) T l:=by
  obtain⟨h1,h2,h3,h4⟩:=xM hk
  exact Y.e (aE h1) h2 h3 h4 he h
theorem Y.dk {K : Act → World → Prop} {last i : Nat} {lk : List Asn} {r : List (Nat × Bool)} {v : Value} (ho : ops[i]? = some o) (hk : okd o N T = some d) (hs : Sb l lk) (hq : eT P o T (WS w0 S0 lk) v)
    (h:Y N w0 S0 (iY P ops (NoPanic Q) (WS w0 S0 lk) last K r) ((d,v) :: T) l):Y N w0 S0 (iY P ops (NoPanic Q) (WS w0 S0 lk) last K ((i,true) :: r)) T l:=by
  obtain⟨h1,h2,h3,h4⟩:=xM hk
  exact Y.dq ho h1 h2 h3 h4 hs hq h
theorem Y.dm {K:Act→World→Prop}{last i:Nat}{lk:List Asn}{r:List (Nat×Bool)}{s:Nat}{v:Value} (hi:ops[i]? =some o) (hk:okd o N T=some d) (hs:Sb l lk) (h:Get T (s,v)) (k:Y N w0 S0 (iY P ops (NoPanic Q) (WS w0 S0 lk) last K r) ((d,v) :: T) l) (ho:o.op= .move (.tmp s):=by exact rfl):Y N w0 S0 (iY P ops (NoPanic Q) (WS w0 S0 lk) last K ((i,true) :: r)) T l:=Y.dk hi hk hs (aS ho (.t h)) k
theorem Y.df {K : Act → World → Prop} {last i : Nat} {lk : List Asn} {r : List (Nat × Bool)} {s : Nat} {t : TypeId} {f off : Nat} {ad : Addr} (hi : ops[i]? = some o) (hk : okd o N T = some d) (hs : Sb l lk) (h : Get T (s, .pointer (some ad))) (hf : ∀ (ad : Addr) (w : World), (Instr.fieldAt t (.pointer (some ad)) f).run P w = .ok (.pointer (some (ad.add off))) w)
    (k:Y N w0 S0 (iY P ops (NoPanic Q) (WS w0 S0 lk) last K r) ((d,.pointer (some (ad.add off))) :: T) l) (ho:o.op= .fieldAddr t (.tmp s) f:=by exact rfl):Y N w0 S0 (iY P ops (NoPanic Q) (WS w0 S0 lk) last K ((i,true) :: r)) T l:=Y.dk hi hk hs (aL ho (.t h) (hf ad)) k
theorem Y.dl {K : Act → World → Prop} {last i : Nat} {lk : List Asn} {r : List (Nat × Bool)} {s : Nat} {t : TypeId} {g e sz c j : Nat} {fl : List Value} {v : Value} {lr : List Asn} (hi : ops[i]? = some o) (hk : okd o N T = some d) (hs : Sb l lk) (hg : eN P t false) (h : Get T (s, .pointer (some ((⟨g, 0, none⟩ : Addr).add j)))) (ht : fK lk (bZ g e sz c fl) lr)
    (k:Y N w0 S0 (iY P ops (NoPanic Q) (WS w0 S0 lk) last K r) ((d,v) :: T) l) (ho:o.op= .load t (.tmp s):=by exact rfl) (hv:fl[j]? =some v:=by exact rfl):Y N w0 S0 (iY P ops (NoPanic Q) (WS w0 S0 lk) last K ((i,true) :: r)) T l:=Y.dk hi hk hs (aN ho hg (.t h) (WS.g ht hv)) k
theorem Y.de {K : Act → World → Prop} {last i : Nat} {lk : List Asn} {r : List (Nat × Bool)} {s : Nat} {t : TypeId} {B : Addr} {ecs : List Value} {j : Nat} {v : Value} (hi : ops[i]? = some o) (hk : okd o N T = some d) (hs : Sb l lk) (hg : eN P t false) (h : Get T (s, .pointer (some (B.add j)))) (hF : FF w0 S0 B.block) (hc : ∀ (i : Nat) (u : Value), ecs[i]? = some u → w0.cell? (B.add i) = some u)
    (k:Y N w0 S0 (iY P ops (NoPanic Q) (WS w0 S0 lk) last K r) ((d,v) :: T) l) (ho:o.op= .load t (.tmp s):=by exact rfl) (hv:ecs[j]? =some v:=by exact rfl):Y N w0 S0 (iY P ops (NoPanic Q) (WS w0 S0 lk) last K ((i,true) :: r)) T l:=Y.dk hi hk hs (aN ho hg (.t h) (WS.el hF hc hv)) k
theorem Y.dn {K:Act→World→Prop}{last i:Nat}{lk:List Asn}{r:List (Nat×Bool)}{s:Nat}{ad:Addr} (hi:ops[i]? =some o) (hk:okd o N T=some d) (hs:Sb l lk) (h:Get T (s,.pointer (some ad))) (k:Y N w0 S0 (iY P ops (NoPanic Q) (WS w0 S0 lk) last K r) ((d,.pointer (some ad)) :: T) l) (ho:o.op= .nilCheck (.tmp s):=by exact rfl):Y N w0 S0 (iY P ops (NoPanic Q) (WS w0 S0 lk) last K ((i,true) :: r)) T l:=Y.dk hi hk hs (eL ho (.t h)) k
theorem Y.nc {s:Nat}{ad:Addr} (hk:okd o N T=some d) (h:Get T (s,.pointer (some ad))) (k:Y N w0 S0 (wpList P ops Q rest) ((d,.pointer (some ad)) :: T) l) (ho:o.op= .nilCheck (.tmp s):=by exact rfl):Y N w0 S0 (wpList P ops Q (o :: rest)) T l:=Y.ql hk (eL ho (.t h)) k
theorem Y.nt {K:Act→World→Prop} (h:Y N w0 S0 K T l):Y N w0 S0 (wpList P ops (Exit.then K Q) []) T l:=Y.nil (Y.g h)
def qs (i n:Nat):List (Nat×Bool):=(List.range n).map fun k=>(i+k,true)
theorem Y.qg {j t:Nat}{b:Bool}{v:Value} (hg:o.guard=some (j,b)) (hj:(ops[j]?).bind (·.dst)=some t) (ht:Get T (t,.bool b)) (hd:o.dst=some d) (hN:Nat.blt d N=true) (hf:oX d T=true) (hq:eT P o T (WS w0 S0 l) v) (h:Y N w0 S0 (wpList P ops Q rest) ((d,v) :: T) l):Y N w0 S0 (wpList P ops Q (o :: rest)) T l:=
  Y.q (dX hg hj ht) hd (Nat.le_of_ble_eq_true hN) hf hq h
theorem Y.dr {lk : List Asn} {id : Nat} {os : List Oper} (hl : Sb l lk) (last : Nat) (hm : P.follows .mixedOrders = true)
    (h:Y N w0 S0 (wpL P .any os.toArray (NoPanic Q) (WS w0 S0 lk) last os.length (Array.replicate os.length false)) T l):Y N w0 S0 ((Code.region id os.toArray true).wp P Q) T l:=Y.a1 lk last hm h
def aIt (sch:List (Nat×Bool)) (a:Array Bool):Array Bool:=sch.foldl (fun a p=>a.setIfInBounds p.1 true) a
theorem Y.sc {last : Nat} {lk : List Asn} {md : Region.Mode} (sch : List (Nat × Bool)) {m : Nat} {listed : Array Bool} (hc : (Nat.ble sch.length m && aJd md ops last sch listed (aIt sch listed)) = true)
    (h:Y N w0 S0 (iY P ops (NoPanic Q) (WS w0 S0 lk) last (wpL P md ops (NoPanic Q) (WS w0 S0 lk) last (m - sch.length) (aIt sch listed)) sch) T l):Y N w0 S0 (wpL P md ops (NoPanic Q) (WS w0 S0 lk) last m listed) T l:=by
  simp only [Bool.and_eq_true] at hc
  exact Y.au sch (m - sch.length) _ (by have:=Nat.le_of_ble_eq_true hc.1;omega) hc.2 h
end
theorem Y.az {N : Nat} {w0 : World} {S0 : Bs} {T : eX} {l : List Asn} {P : Program} {Q : Exit → Act → World → Prop} {x y : Code} {γ : Type} (Tm : γ → eX) (lm : γ → List Asn) (φ : γ → Prop)
    (hx:Y N w0 S0 (x.wp P (Exit.then (fun a w=>a.defers= []∧a.tmps.size=N∧∃g',φ g'∧Holds (Tm g') a∧WS w0 S0 (lm g') w) Q)) T l) (hy:∀g,φ g→Y N w0 S0 (y.wp P Q) (Tm g) (lm g)):Y N w0 S0 ((Code.seq x y).wp P Q) T l:=by
  refine Y.seq fun a w h1 h2 h3 h4=> ?_
  refine Code.wp_mono (fun e a' w' h=> ?_) (hx a w h1 h2 h3 h4)
  cases e with
  | normal=>obtain⟨k1,k2,g,hg,k3,k4⟩:=h;exact hy g hg a' w' k1 k2 k3 k4
  | exit id=>exact h
  | goto l=>exact h
  | ret=>exact h
  | panic ch=>exact h
  | outgrown=>exact h
theorem Y.ar {N:Nat}{w0:World}{S0:Bs}{T:eX}{l:List Asn}{Q:Exit→Act→World→Prop}{γ:Type}{Tm:γ→eX}{lm:γ→List Asn}{φ:γ→Prop} (g':γ) (hg:φ g') (hT:Sub T (Tm g')) (hl:∀w,WS w0 S0 l w→WS w0 S0 (lm g') w):
    Y N w0 S0 (Exit.then (fun a w=>a.defers= []∧a.tmps.size=N∧∃g',φ g'∧Holds (Tm g') a∧WS w0 S0 (lm g') w) Q .normal) T l:=
  fun _ w h1 h2 h3 h4=>⟨h1,h2,g',hg,hT.holds h3,hl w h4⟩
end Go.Proofs.YtmejbfmhaoilmaaGreat
/- What is proved: the disk, as plain functions on data, and when each answer comes. No condition. -/
namespace Go.Proofs.YtmejbfmhaoilmaaGreat
set_option linter.unusedVariables false
set_option linter.unusedSimpArgs false
def oW {α : Type} (f : α → Int) : List α → Int
  | []=>0
  | x :: xs=>if f x=0 then oW f xs else f x
theorem uL {α:Type}{f:α→Int}{xs:List α} (h:∀(j:Nat) x,xs[j]? =some x→f x=0):oW f xs=0:=by
  induction xs with
  | nil=>rfl
  | cons x xs ih=>
    simp only [oW,h 0 x rfl,if_true]
    exact ih (fun j y hy=>h (j+1) y hy)
theorem qV {α : Type} {f : α → Int} : ∀ {xs : List α} {k : Nat} {x : α}, xs[k]? = some x → f x ≠ 0 → (∀ j y, j < k → xs[j]? = some y → f y = 0) → oW f xs = f x
  | [],k,x,h,_,_=>by simp at h
  | y :: xs,0,x,h,hn,_=>by
    simp at h;subst h
    simp only [oW,if_neg hn]
  | y :: xs,k+1,x,h,hn,ha=>by
    simp only [oW,ha 0 y (by omega) rfl,if_true]
    exact qV (by simpa using h) hn (fun j z hj hz=>ha (j+1) z (by omega) (by simpa using hz))
theorem vW {α:Type} (p:α→Bool) (xs:List α):decide (0≤fC p xs)=xs.any p:=by
  unfold fC
  cases h:xs.findIdx? p with
  | none=>
    have:xs.any p=false:=by rw [List.any_eq_false];intro x hx;have:=List.findIdx?_eq_none_iff.1 h x hx;simp [this]
    rw [this];rfl
  | some i=>
    have:xs.any p=true:=by
      rw [List.any_eq_true]
      obtain⟨hi,hp,_⟩:=List.findIdx?_eq_some_iff_getElem.1 h
      exact⟨_,List.getElem_mem hi,hp⟩
    rw [this];simp
abbrev bY (n:Nat) (at_:Int):Prop:=0≤at_∧at_≤(n:Int) - 1
theorem kQ {α:Type}{xs:List α}{k:Nat}{x:α} (h:xs[k]? =some x):xs.take k++ [x]=xs.take (k+1):=by
  rw [List.take_add_one,h];rfl
def aJa (n:Nat) (e:aJ3):Prop:=(1≤e.key∧e.key≤9999)∧(0≤e.frm∧e.frm≤n)∧(1≤e.cnt∧e.cnt≤n)∧e.frm+e.cnt≤n
instance (n:Nat) (e:aJ3):Decidable (aJa n e):=by unfold aJa;infer_instance
abbrev aMq (a:Int) (e:aJ3):Prop:=e.frm≤a∧a≤e.frm+e.cnt - 1
theorem sS {α : Type} {f : α → Int} : ∀ {xs : List α}, oW f xs = 0 → ∀ x, x ∈ xs → f x = 0
  | [],_,x,hx=>by cases hx
  | y :: xs,h,x,hx=>by
    unfold oW at h
    by_cases hy:f y=0
    · rw [if_pos hy] at h
      rcases List.mem_cons.1 hx with rfl | hx
      · exact hy
      · exact sS h x hx
    · rw [if_neg hy] at h;exact absurd h hy
end Go.Proofs.YtmejbfmhaoilmaaGreat
/- What is proved: names, inodes and their faults, in plain Lean. No condition. -/
namespace Go.Proofs.YtmejbfmhaoilmaaGreat
open Go Go.RowKit
set_option linter.unusedVariables false
set_option linter.unusedSimpArgs false
abbrev uX (b:UInt8):Prop:=(97:Int)≤(b.toNat:Int)∧(b.toNat:Int)≤122
def cK (s:ByteArray):Int:=if s.data.toList.all (fun b=>decide (uX b))=true then(if s.size=0 then 5 else if 4<s.size then 2 else 0)else 5
theorem oO {s:ByteArray}{k:Nat}{b:UInt8} (hb:s.data.toList[k]? =some b) (h:¬uX b):cK s=5:=by
  unfold cK
  rw [if_neg]
  intro ha
  exact h (of_decide_eq_true (List.all_eq_true.1 ha b (List.mem_of_getElem? hb)))
theorem aDx {s:ByteArray} (h:∀j b,j<s.size→s.data.toList[j]? =some b→uX b):s.data.toList.all (fun b=>decide (uX b))=true:=
  List.all_eq_true.2 fun b hb=>by
    obtain⟨j,hj⟩:=List.mem_iff_getElem?.1 hb
    exact decide_eq_true (h j b (by have:=(List.getElem?_eq_some_iff.1 hj).1;rw [mT] at this;exact this) hj)
theorem aC5 {s:ByteArray} (h:¬s=⟨#[]⟩):¬s.size=0:=fun h0=>h (by
  cases s with
  | mk d => have : d.size = 0 := h0
            rw [Array.size_eq_zero_iff] at this
            rw [this])
theorem iC {s:ByteArray} (h:s=⟨#[]⟩):cK s=5:=by
  subst h
  decide
theorem iF {s:ByteArray} (hall:∀j b,j<s.size→s.data.toList[j]? =some b→uX b) (h:¬s=⟨#[]⟩) (h4:(4:Int)<(s.size:Int)):cK s=2:=by
  unfold cK
  rw [if_pos (aDx hall),if_neg (aC5 h),if_pos (by omega)]
theorem hZ {s:ByteArray} (hall:∀j b,j<s.size→s.data.toList[j]? =some b→uX b) (h:¬s=⟨#[]⟩) (h4:¬(4:Int)<(s.size:Int)):cK s=0:=by
  unfold cK
  rw [if_pos (aDx hall),if_neg (aC5 h),if_neg (by omega)]
theorem uC {s:ByteArray} (h:cK s=0):s.size≤4∧0<s.size:=by
  unfold cK at h
  split at h
  · split at h
    · exact absurd h (by decide)
    · split at h
      · exact absurd h (by decide)
      · omega
  · exact absurd h (by decide)
theorem aF5 : ∀ x y : List UInt8, (Op.bytesLess x y || decide (x = y)) = !Op.bytesLess y x
  | [],[]=>by simp [Op.bytesLess]
  | [],b :: y=>by simp [Op.bytesLess]
  | a :: x,[]=>by simp [Op.bytesLess]
  | a :: x,b :: y=>by
    have ih:=aF5 x y
    simp only [Op.bytesLess,List.cons.injEq]
    by_cases h:a=b
    · subst h
      have:¬a<a:=UInt8.lt_irrefl a
      simp [this] at ih ⊢
      exact ih
    · have h' : ¬ b = a := fun e => h e.symm
      simp [h,h']
      rcases UInt8.lt_or_lt_of_ne h with g | g
      · have : ¬ b < a := UInt8.lt_asymm g
        simp [g,this,UInt8.le_of_lt g]
        exact .inl h'
      · have : ¬ a < b := UInt8.lt_asymm g
        simp [g,this]
        exact fun e=>absurd e h
theorem toList_inj {s u:ByteArray}:s.toList=u.toList↔s=u:=by
  constructor
  · intro h
    have h2:s.data.toList=u.data.toList:=by simpa [ByteArray.toList_eq] using h
    cases s;cases u
    simp at h2
    rw [h2]
  · rintro rfl;rfl
theorem rY (s u:ByteArray):(sLt s u || decide (s=u))= !sLt u s:=by
  have:=aF5 s.toList u.toList
  unfold sLt
  rw [←this]
  congr 1
  rw [decide_eq_decide]
  exact toList_inj.symm
def gE (x:aF):Int:=
  if (1 ≤ x.links ∧ x.links ≤ 60) ∧ (0 ≤ x.size ∧ x.size ≤ 32) then
    if (x.blocks.length : Int) = (x.size + 7) / 8 then
      if x.blocks.any (fun b=> !decide (0≤b∧b≤19))=true then 3 else if x.blocks.Nodup then 0 else 7
    else 1
  else 3
theorem cX {x:aF} (h:¬((1≤x.links∧x.links≤60)∧(0≤x.size∧x.size≤32))):gE x=3:=if_neg h
theorem cW {x:aF} (h:(1≤x.links∧x.links≤60)∧(0≤x.size∧x.size≤32)) (h2:¬(x.blocks.length:Int)=(x.size+7) / 8):gE x=1:=by
  unfold gE;rw [if_pos h,if_neg h2]
theorem dE {x:aF} (h:(1≤x.links∧x.links≤60)∧(0≤x.size∧x.size≤32)) (h2:(x.blocks.length:Int)=(x.size+7) / 8) (h3:x.blocks.any (fun b=> !decide (0≤b∧b≤19))=true):gE x=3:=by
  unfold gE;rw [if_pos h,if_pos h2,if_pos h3]
theorem uM {x:aF} (h:(1≤x.links∧x.links≤60)∧(0≤x.size∧x.size≤32)) (h2:(x.blocks.length:Int)=(x.size+7) / 8) (h3:x.blocks.any (fun b=> !decide (0≤b∧b≤19))=false) (h4:¬x.blocks.Nodup):gE x=7:=by
  unfold gE;rw [if_pos h,if_pos h2,if_neg (by rw [h3];decide),if_neg h4]
theorem cT {x:aF} (h:(1≤x.links∧x.links≤60)∧(0≤x.size∧x.size≤32)) (h2:(x.blocks.length:Int)=(x.size+7) / 8) (h3:x.blocks.any (fun b=> !decide (0≤b∧b≤19))=false) (h4:x.blocks.Nodup):gE x=0:=by
  unfold gE;rw [if_pos h,if_pos h2,if_neg (by rw [h3];decide),if_pos h4]
theorem aD8 {α:Type}{xs:List α}{k:Nat}{b:α} (h:(xs.take k).Nodup) (hb:xs[k]? =some b) (hn:¬b∈xs.take k):(xs.take (k+1)).Nodup:=by
  rw [←kQ hb]
  exact List.nodup_append.2 ⟨h,by simp,fun a ha c hc=>by
    obtain rfl:=List.mem_singleton.1 hc
    exact fun e=>hn (e ▸ ha)⟩
theorem yK {α:Type}{xs:List α}{k:Nat}{b:α} (hb:xs[k]? =some b) (hm:b∈xs.take k):¬xs.Nodup:=fun h=>by
  have:(xs.take (k+1)).Nodup:=h.sublist (List.take_sublist _ _)
  rw [←kQ hb] at this
  exact(List.nodup_append.1 this).2.2 b hm b (List.mem_singleton.2 rfl) rfl
theorem aA7 {α:Type}{xs:List α}{k q:Nat}{b:α} (hb:xs[q]? =some b) (h:q<k):b∈xs.take k:=by
  refine List.mem_of_getElem? (i:=q) ?_
  rw [List.getElem?_take,if_pos h]
  exact hb
theorem pR {α:Type}{xs:List α}{k:Nat}{b:α} (h:∀j y,j<k→xs[j]? =some y→¬y=b):¬b∈xs.take k:=fun hm=>by
  obtain⟨j,hj⟩:=List.mem_iff_getElem?.1 hm
  rw [List.getElem?_take] at hj
  split at hj
  · rename_i hlt;exact h j b hlt hj rfl
  · cases hj
theorem aDt {xs:List Int}{k:Nat}{b:Int} (hb:xs[k]? =some b) (h:¬(0≤b∧b≤19)):xs.any (fun b=> !decide (0≤b∧b≤19))=true:=
  List.any_eq_true.2 ⟨b,List.mem_of_getElem? hb,by simp only [decide_eq_false h];rfl⟩
theorem nQ {xs:List Int} (h:∀j b,j<xs.length→xs[j]? =some b→0≤b∧b≤19):xs.any (fun b=> !decide (0≤b∧b≤19))=false:=by
  rw [List.any_eq_false]
  intro b hb
  obtain⟨j,hj⟩:=List.mem_iff_getElem?.1 hb
  rw [decide_eq_true (h j b (List.getElem?_eq_some_iff.1 hj).1 hj)]
  decide
def gN (xs:List Int):Int:=if 20<xs.length then 2 else if xs.any (fun b=> !decide (0≤b∧b≤19))=true then 3 else 0
theorem kK {xs:List Int} (h:(20:Int)<(xs.length:Int)):gN xs=2:=if_pos (by omega)
theorem kJ {xs:List Int} (h:¬(20:Int)<(xs.length:Int)) (h2:xs.any (fun b=> !decide (0≤b∧b≤19))=true):gN xs=3:=by unfold gN;rw [if_neg (by omega),if_pos h2]
theorem hY {xs:List Int} (h:¬(20:Int)<(xs.length:Int)) (h2:xs.any (fun b=> !decide (0≤b∧b≤19))=false):gN xs=0:=by unfold gN;rw [if_neg (by omega),if_neg (by rw [h2];decide)]
def oD (es:List bT) (j:Nat) (e:bT):Int:=
  if cK e.name=0 then if 0≤e.ino∧e.ino≤9 then(match (if j=0 then none else es[j - 1]?) with | some p=>if sLt p.name e.name=true then 0 else 1 | none=>0)else 3 else cK e.name
def qA (es:List bT) (j:Nat):Int:=match es[j]? with | some e=>oD es j e | none=>0
def aC2 (f:Nat→Int) (n:Nat):Int:=oW f (List.range n)
theorem aBw {f:Nat→Int}{n k:Nat} (hk:k<n) (h:¬f k=0) (ha:∀j,j<k→f j=0):aC2 f n=f k:=
  qV (k:=k) (x:=k) (by simp [hk]) h (fun j y hj hy=>by
    have:j<n:=by omega
    simp [this] at hy
    subst hy
    exact ha j hj)
theorem aB5 {f:Nat→Int}{n:Nat} (ha:∀j,j<n→f j=0):aC2 f n=0:=
  uL (fun j y hy=>by
    have:=(List.getElem?_eq_some_iff.1 hy)
    obtain⟨h1,h2⟩:=this
    simp at h1 h2
    subst h2
    exact ha j h1)
def jR (x:aF):Int:=if 6<x.ents.length then 2 else aC2 (qA x.ents) x.ents.length
theorem iW {x:aF} (h:(6:Int)<(x.ents.length:Int)):jR x=2:=if_pos (by omega)
theorem gC {x:aF}{k:Nat}{e:bT} (h:¬(6:Int)<(x.ents.length:Int)) (he:x.ents[k]? =some e) (hn:¬oD x.ents k e=0) (ha:∀j,j<k→qA x.ents j=0):jR x=oD x.ents k e:=by
  have e1:qA x.ents k=oD x.ents k e:=by unfold qA;rw [he]
  unfold jR
  rw [if_neg (by omega),aBw (List.getElem?_eq_some_iff.1 he).1 (by rw [e1];exact hn) ha,e1]
theorem iJ {x:aF} (h:¬(6:Int)<(x.ents.length:Int)) (ha:∀j,j<x.ents.length→qA x.ents j=0):jR x=0:=by
  unfold jR;rw [if_neg (by omega),aB5 ha]
theorem lH {es:List bT}{j:Nat}{e:bT} (h:¬cK e.name=0):oD es j e=cK e.name:=if_neg h
theorem lG {es:List bT}{j:Nat}{e:bT} (h:cK e.name=0) (h2:¬(0≤e.ino∧e.ino≤9)):oD es j e=3:=by unfold oD;rw [if_pos h,if_neg h2]
theorem vF {es:List bT}{j:Nat}{e p:bT} (h:cK e.name=0) (h2:0≤e.ino∧e.ino≤9) (hj:0<j) (hp:es[j - 1]? =some p) (hl:sLt p.name e.name=false):oD es j e=1:=by
  unfold oD;rw [if_pos h,if_pos h2,if_neg (by omega),hp];simp [hl]
theorem aEa {es:List bT}{j:Nat}{e p:bT} (h:cK e.name=0) (h2:0≤e.ino∧e.ino≤9) (hj:0<j) (hp:es[j - 1]? =some p) (hl:sLt p.name e.name=true):oD es j e=0:=by
  unfold oD;rw [if_pos h,if_pos h2,if_neg (by omega),hp];simp [hl]
theorem rS {es:List bT}{j:Nat}{e:bT} (h:cK e.name=0) (h2:0≤e.ino∧e.ino≤9) (hj:j=0):oD es j e=0:=by
  unfold oD;rw [if_pos h,if_pos h2,if_pos hj]
theorem vG {es:List bT}{k:Nat}{e:bT} (ha:∀j,j<k→qA es j=0) (he:es[k]? =some e) (h:oD es k e=0):∀j,j<k+1→qA es j=0:=fun j hj=>by
  by_cases hk:j<k
  · exact ha j hk
  · obtain rfl : j = k := by omega
    unfold qA;rw [he];exact h
def cL (x:aF):Int:=
  if 0 ≤ x.kind ∧ x.kind ≤ 2 then
    if(x.kind≠1∧¬(x.links=0∧x.size=0∧x.blocks.length=0))∨(x.kind≠2∧¬x.ents.length=0)then 1
    else if x.kind=1 then gE x else if x.kind=2 then jR x else 0
  else 1
theorem cO {x:aF} (h:¬(0≤x.kind∧x.kind≤2)):cL x=1:=if_neg h
theorem cM {x:aF} (h:(x.kind≠1∧¬(x.links=0∧x.size=0∧x.blocks.length=0))∨(x.kind≠2∧¬x.ents.length=0)):cL x=1:=by
  unfold cL
  by_cases hk:0≤x.kind∧x.kind≤2
  · rw [if_pos hk,if_pos h]
  · rw [if_neg hk]
theorem cG {x:aF} (h:x.kind=1) (h2:x.ents.length=0):cL x=gE x:=by
  unfold cL;rw [if_pos (by omega),if_neg (by omega),if_pos h]
theorem cH {x:aF} (h:x.kind=2) (h2:x.links=0∧x.size=0∧x.blocks.length=0):cL x=jR x:=by
  unfold cL;rw [if_pos (by omega),if_neg (by omega),if_neg (by omega),if_pos h]
theorem cF {x:aF} (h:x.kind=0) (h2:x.links=0∧x.size=0∧x.blocks.length=0) (h3:x.ents.length=0):cL x=0:=by
  unfold cL;rw [if_pos (by omega),if_neg (by omega),if_neg (by omega),if_neg (by omega)]
theorem cN {x:aF} (h:0≤x.kind∧x.kind≤2) (h1:¬x.kind=1) (h2:x.links=0∧x.size=0∧x.blocks.length=0) (h3:x.kind=2∨x.ents.length=0):cL x=jR x:=by
  by_cases hk:x.kind=2
  · exact cH hk h2
  · rw [cF (by omega) h2 (by omega)]
    exact(iJ (by omega) (fun j hj=>by omega)).symm
def bJ (xs:List aF):Int:=if 10<xs.length then 2 else oW cL xs
theorem jX {xs:List aF} (h:(10:Int)<(xs.length:Int)):bJ xs=2:=if_pos (by omega)
theorem sF {xs:List aF}{k:Nat}{x:aF} (h:¬(10:Int)<(xs.length:Int)) (hx:xs[k]? =some x) (hn:¬cL x=0) (ha:∀j y,j<k→xs[j]? =some y→cL y=0):bJ xs=cL x:=by
  unfold bJ;rw [if_neg (by omega),qV hx hn ha]
theorem iD {xs:List aF} (h:¬(10:Int)<(xs.length:Int)) (ha:∀j y,j<xs.length→xs[j]? =some y→cL y=0):bJ xs=0:=by
  unfold bJ;rw [if_neg (by omega),uL (fun j y hy=>ha j y (List.getElem?_eq_some_iff.1 hy).1 hy)]
theorem kV {xs:List aF} (h:bJ xs=0):xs.length≤10:=by
  unfold bJ at h
  split at h
  · exact absurd h (by decide)
  · omega
theorem dI {xs:List aF} (h:bJ xs=0):∀x,x∈xs→cL x=0:=by
  unfold bJ at h
  split at h
  · exact absurd h (by decide)
  · exact sS h
theorem zJ {x:aF} (h:cL x=0):x.ents.length≤6:=by
  unfold cL at h
  split at h
  · split at h
    · exact absurd h (by decide)
    · split at h
      · omega
      · split at h
        · unfold jR at h
          split at h
          · exact absurd h (by decide)
          · omega
        · omega
  · exact absurd h (by decide)
def oF (a:Int) (e:bT):Nat:=if e.ino=a then 1 else 0
def gI (a:Int) (x:aF):Nat:=gS (oF a) x.ents
def fM (xs:List aF) (a:Int):Nat:=gS (gI a) xs
theorem tE {α : Type} {f : α → Nat} {B : Nat} : ∀ {xs : List α}, (∀ x, x ∈ xs → f x ≤ B) → gS f xs ≤ xs.length * B
  | [],_=>Nat.zero_le _
  | x :: xs,h=>by
    have h1:=h x List.mem_cons_self
    have h2:=tE (xs:=xs) (fun y hy=>h y (List.mem_cons_of_mem _ hy))
    simp only [gS,List.length_cons,Nat.succ_mul]
    omega
theorem aJ5 (a:Int) (e:bT):oF a e≤1:=by unfold oF;split <;> omega
theorem wY {xs:List aF} (h:bJ xs=0) (a:Int):fM xs a≤60:=by
  have h1:fM xs a≤xs.length * 6:=tE fun x hx=>by
    have h2:gI a x≤x.ents.length * 1:=tE fun e _=>aJ5 a e
    have h3:=zJ (dI h x hx)
    omega
  have:=kV h
  omega
def cY (xs:List aF):Int:=match xs.findIdx? (fun x=>decide (x.kind=0)) with | some i=>i | none=>if xs.length=10 then -1 else xs.length
theorem aGv {xs:List aF}{k:Nat}{x:aF} (hx:xs[k]? =some x) (h:x.kind=0) (ha:∀j y,j<k→xs[j]? =some y→¬y.kind=0):cY xs=(k:Int):=by
  have:xs.findIdx? (fun x=>decide (x.kind=0))=some k:=by
    obtain⟨hk,rfl⟩:=List.getElem?_eq_some_iff.1 hx
    exact List.findIdx?_eq_some_iff_getElem.2 ⟨hk,decide_eq_true h,fun j hj=>by
      have:=ha j _ hj (List.getElem?_eq_getElem (by omega))
      simpa using this⟩
  unfold cY
  rw [this]
theorem yE {xs:List aF}{q:Nat} (hq:xs.length≤q) (ha:∀j y,j<q→xs[j]? =some y→¬y.kind=0):xs.findIdx? (fun x=>decide (x.kind=0))=none:=by
  rw [List.findIdx?_eq_none_iff]
  intro y hy
  obtain⟨j,hj⟩:=List.mem_iff_getElem?.1 hy
  have:=ha j y (by have:=(List.getElem?_eq_some_iff.1 hj).1;omega) hj
  simpa using this
theorem wB {xs:List aF}{q:Nat} (hq:xs.length≤q) (ha:∀j y,j<q→xs[j]? =some y→¬y.kind=0) (h:(xs.length:Int)<10):cY xs=(xs.length:Int):=by
  unfold cY;rw [yE hq ha];simp only;rw [if_neg (by omega)]
theorem xQ {xs:List aF}{q:Nat} (hq:xs.length≤q) (ha:∀j y,j<q→xs[j]? =some y→¬y.kind=0) (h:¬(xs.length:Int)<10) (h10:xs.length≤10):cY xs= -1:=by
  unfold cY;rw [yE hq ha];simp only;rw [if_pos (by omega)]
end Go.Proofs.YtmejbfmhaoilmaaGreat
/- What is proved: blocks that are used, free and picked, in plain Lean. No condition. -/
namespace Go.Proofs.YtmejbfmhaoilmaaGreat
open Go Go.RowKit
set_option linter.unusedVariables false
set_option linter.unusedSimpArgs false
def eW (xs:List aF):List Int:=(xs.map (·.blocks)).flatten
def jQ (l:List Int):List Int:=l.mergeSort (fun x y=>decide (x≤y))
theorem pM (l:List Int):(jQ l).Perm l:=List.mergeSort_perm ..
theorem yV (l:List Int):(jQ l).length=l.length:=(pM l).length_eq
theorem fQ {l:List Int}{a:Int}:a∈jQ l↔a∈l:=(pM l).mem_iff
theorem aAm (l:List Int):(jQ l).Pairwise (· ≤ ·):=by
  have:=List.pairwise_mergeSort (le:=fun(x y:Int)=>decide (x≤y)) (fun a b c h k=>by simp at *;omega) (fun a b=>by simp;omega) l
  exact this.imp (fun h=>by simpa using h)
theorem nS {xs:List aF}{k:Nat}{x:aF} (h:xs[k]? =some x):eW (xs.take k)++x.blocks=eW (xs.take (k+1)):=by
  unfold eW
  rw [←kQ h]
  simp
theorem aAw (zs:List Int):(Lib.compact zs).length≤zs.length:=by
  unfold Lib.compact Lib.compactUpTo
  rw [List.length_map]
  exact Nat.le_trans (List.length_filter_le _ _) (by simp)
theorem xY {zs:List Int} (h:zs.Nodup):(Lib.compact zs).length=zs.length:=by
  rw [Lib.compact_all zs]
  intro j hj
  by_cases h0:j=0
  · simp [Lib.keeps,h0]
  · refine Lib.keeps_pos ?_
    rw [getElem!_pos zs.toArray j (by simpa using hj),getElem!_pos zs.toArray (j - 1) (by simp;omega)]
    intro e
    have:=List.pairwise_iff_getElem.1 (List.nodup_iff_pairwise_ne.1 h) (j - 1) j (by omega) hj (by omega)
    exact this (by simpa using e.symm)
theorem aA8 {zs:List Int} (hs:zs.Pairwise (· ≤ ·)) (h:¬zs.Nodup):(Lib.compact zs).length<zs.length:=by
  -- a place whose left neighbour holds the same
  have hex:∃j,0<j∧∃h1:j<zs.length,zs[j]=zs[j - 1]:=by
    apply Classical.byContradiction
    intro hno
    apply h
    have hlt:∀(d i:Nat) (h1:i+d+1<zs.length),zs[i]<zs[i+d+1]:=by
      intro d
      induction d with
      | zero=>
        intro i h1
        have h2:zs[i]≤zs[i+1]:=List.pairwise_iff_getElem.1 hs i (i+1) (by omega) h1 (by omega)
        have h3:zs[i+1]≠zs[i]:=fun e=>hno ⟨i+1,by omega,h1,by simpa using e⟩
        simp only [Nat.add_zero]
        omega
      | succ d ih=>
        intro i h1
        have h2:=ih i (by omega)
        have h4:zs[i+d+1]≤zs[i+d+1+1]:=List.pairwise_iff_getElem.1 hs (i+d+1) (i+d+1+1) (by omega) (by omega) (by omega)
        have e:i+(d+1)+1=i+d+1+1:=by omega
        simp only [e]
        omega
    rw [List.nodup_iff_pairwise_ne,List.pairwise_iff_getElem]
    intro i j hi hj hij
    have:=hlt (j - i - 1) i (by omega)
    have e:i+(j - i - 1)+1=j:=by omega
    simp only [e] at this
    omega
  obtain⟨j,hj0,hj,he⟩:=hex
  have hk:Lib.keeps zs.toArray j=false:=by
    refine Lib.keeps_neg hj0 ?_
    rw [getElem!_pos zs.toArray j (by simpa using hj),getElem!_pos zs.toArray (j - 1) (by simp;omega)]
    simpa using he
  unfold Lib.compact Lib.compactUpTo
  rw [List.length_map]
  have:=List.length_filter_lt_length_iff_exists (l:=List.range zs.length) (p:=Lib.keeps zs.toArray)
  rw [List.length_range] at this
  exact this.2 ⟨j,List.mem_range.2 hj,by rw [hk];exact Bool.false_ne_true⟩
theorem aAo (l:List Int):((Lib.compact (jQ l)).length=(jQ l).length)↔l.Nodup:=by
  constructor
  · intro h
    apply Classical.byContradiction
    intro hn
    have:=aA8 (aAm l) (fun h2=>hn ((pM l).nodup_iff.1 h2))
    omega
  · intro h
    exact xY ((pM l).nodup_iff.2 h)
def uV (a b:Int):Nat:=if b=a then 1 else 0
def aAk (a:Int) (x:aF):Nat:=gS (uV a) x.blocks
def oV (xs:List aF) (a:Int):Nat:=gS (aAk a) xs
theorem yP (a : Int) : ∀ l : List Int, gS (uV a) l = l.count a
  | []=>rfl
  | b :: l=>by
    simp only [gS,yP a l,List.count_cons,uV,beq_iff_eq]
    omega
theorem pE (a : Int) : ∀ xs : List aF, oV xs a = (eW xs).count a
  | []=>rfl
  | x :: xs=>by
    have ih:=pE a xs
    unfold oV eW at ih ⊢
    simp only [gS,List.map_cons,List.flatten_cons,List.count_append,←ih,aAk,yP]
theorem jP {x:aF} (h:cL x=0):x.blocks.length≤4∧∀b,b∈x.blocks→0≤b∧b≤19:=by
  unfold cL at h
  split at h
  · split at h
    · exact absurd h (by decide)
    · rename_i h1 h2
      split at h
      · unfold gE at h
        split at h
        · split at h
          · split at h
            · exact absurd h (by decide)
            · rename_i h3 h4 h5
              refine⟨by omega,fun b hb=> ?_⟩
              simp only [List.any_eq_true,not_exists,not_and] at h5
              have:=h5 b hb
              simpa using this
          · exact absurd h (by decide)
        · exact absurd h (by decide)
      · have h0 : x.blocks.length = 0 := by omega
        exact⟨by omega,fun b hb=>by rw [List.length_eq_zero_iff.1 h0] at hb;cases hb⟩
  · exact absurd h (by decide)
theorem aEx {xs:List aF} (h:bJ xs=0) {b:Int} (hb:b∈eW xs):0≤b∧b≤19:=by
  unfold eW at hb
  obtain⟨l,hl,hb⟩:=List.mem_flatten.1 hb
  obtain⟨x,hx,rfl⟩:=List.mem_map.1 hl
  exact(jP (dI h x hx)).2 b hb
theorem aE0 {xs:List aF} (h:∀x,x∈xs→cL x=0):(eW xs).length≤xs.length * 4:=by
  induction xs with
  | nil=>simp [eW]
  | cons x xs ih=>
    have h1:=(jP (h x List.mem_cons_self)).1
    have h2:=ih (fun y hy=>h y (List.mem_cons_of_mem _ hy))
    unfold eW at h2 ⊢
    simp only [List.map_cons,List.flatten_cons,List.length_append,List.length_cons]
    omega
theorem pB {xs:List aF} (h:bJ xs=0) (k:Nat):(eW (xs.take k)).length≤40:=by
  have h1:=aE0 (xs:=xs.take k) (fun x hx=>dI h x (List.mem_of_mem_take hx))
  have h2:=kV h
  rw [List.length_take] at h1
  omega
theorem aHc {xs:List aF} (h:bJ xs=0) (a:Int):oV xs a≤40:=by
  rw [pE]
  have:=pB h xs.length
  rw [List.take_length] at this
  exact Nat.le_trans List.count_le_length this
def cB (p:Int→Bool) (k:Nat):List Int:=((List.range k).map (fun i:Nat=>(i:Int))).filter p
theorem nC {p:Int→Bool}{k:Nat} (h:p (k:Int)=true):cB p k++ [(k:Int)]=cB p (k+1):=by
  unfold cB
  rw [List.range_succ]
  simp [h]
theorem iP {p:Int→Bool}{k:Nat} (h:p (k:Int)=false):cB p k=cB p (k+1):=by
  unfold cB
  rw [List.range_succ]
  simp [h]
theorem lX {p:Int→Bool}{k:Nat}:(cB p k).length≤k:=by
  unfold cB
  exact Nat.le_trans (List.length_filter_le _ _) (by simp)
theorem pV {p:Int→Bool}{k:Nat}{a:Int}:a∈cB p k↔(0≤a∧a<k)∧p a=true:=by
  unfold cB
  rw [List.mem_filter,List.mem_map]
  constructor
  · rintro ⟨⟨i, hi, rfl⟩, hp⟩
    have:=List.mem_range.1 hi
    exact⟨⟨by omega,by omega⟩,hp⟩
  · rintro ⟨⟨h1, h2⟩, hp⟩
    exact⟨⟨a.toNat,List.mem_range.2 (by omega),by omega⟩,hp⟩
theorem aAz {p:Int→Bool}{k:Nat}:(cB p k).Pairwise (· < ·):=by
  unfold cB
  refine List.Pairwise.filter _ ?_
  rw [List.pairwise_map]
  exact List.pairwise_lt_range.imp (fun h=>by omega)
theorem xR {p q:Int→Bool}{k:Nat} (h:∀a:Int,0≤a→a<k→p a=q a):cB p k=cB q k:=by
  unfold cB
  refine List.filter_congr fun a ha=> ?_
  obtain⟨i,hi,rfl⟩:=List.mem_map.1 ha
  have:=List.mem_range.1 hi
  exact h _ (by omega) (by omega)
def sR (xs:List aF) (k:Nat):Prop:=∀j,j<k→oV xs (j:Int)≤1
instance (xs:List aF) (k:Nat):Decidable (sR xs k):=by unfold sR;infer_instance
theorem jU {xs:List aF}{k:Nat}:sR xs (k+1)↔sR xs k∧oV xs (k:Int)≤1:=by
  unfold sR
  constructor
  · intro h
    exact⟨fun j hj=>h j (by omega),h k (by omega)⟩
  · rintro ⟨h1, h2⟩ j hj
    by_cases hk:j=k
    · subst hk;exact h2
    · exact h1 j (by omega)
theorem aEl {xs:List aF} (h:bJ xs=0):sR xs 20↔(eW xs).Nodup:=by
  rw [List.nodup_iff_count]
  constructor
  · intro ho a
    by_cases ha:a∈eW xs
    · have hb := aEx h ha
      have:=ho a.toNat (by omega)
      rw [show((a.toNat:Nat):Int)=a by omega,pE] at this
      exact this
    · rw [List.count_eq_zero_of_not_mem ha];omega
  · intro hn j _
    rw [pE]
    exact hn _
abbrev oK (xs:List aF):Int→Bool:=fun a=>decide (0<oV xs a)
abbrev nB (xs:List aF) (busy:List Int):Int→Bool:=fun b=>decide (¬b∈eW xs∧¬b∈busy)
theorem iL {xs:List aF}{a:Int}:(oV xs a:Int)=0↔¬a∈eW xs:=by
  rw [pE]
  constructor
  · intro h ha
    have:=List.count_pos_iff.2 ha
    omega
  · intro h
    rw [List.count_eq_zero_of_not_mem h]
    rfl
def kA (xs:List aF) (busy:List Int):List Int:=cB (nB xs busy) 20
def jD (xs:List aF) (busy:List Int):Int:=if bJ xs=0 then gN busy else bJ xs
theorem wL {xs:List aF}{busy:List Int} (h:jD xs busy=0):bJ xs=0:=by
  unfold jD at h
  split at h
  · assumption
  · exact h
def hJ (xs:List aF) (busy:List Int) (n:Int):jI:=if 0≤n∧n≤4 then if((kA xs busy).length:Int)<n then⟨8,[]⟩else⟨0,(kA xs busy).take n.toNat⟩else⟨3,[]⟩
theorem nZ {xs:List aF}{busy:List Int}{n:Int} (h:¬(0≤n∧n≤4)):hJ xs busy n=⟨3,[]⟩:=if_neg h
theorem nY {xs:List aF}{busy:List Int}{n:Int} (h:0≤n∧n≤4) (h2:((kA xs busy).length:Int)<n):hJ xs busy n=⟨8,[]⟩:=by unfold hJ;rw [if_pos h,if_pos h2]
theorem nT {xs:List aF}{busy:List Int}{n:Int} (h:0≤n∧n≤4) (h2:¬((kA xs busy).length:Int)<n):hJ xs busy n=⟨0,(kA xs busy).take n.toNat⟩:=by unfold hJ;rw [if_pos h,if_neg h2]
def sE (xs:List aF) (busy:List Int) (n:Int):jI:=if jD xs busy=0 then hJ xs busy n else⟨jD xs busy,[]⟩
theorem vK {xs:List aF}{busy:List Int}{n:Int} (h:¬jD xs busy=0):sE xs busy n=⟨jD xs busy,[]⟩:=if_neg h
theorem iS {xs:List aF}{busy:List Int}{n:Int} (h:jD xs busy=0):sE xs busy n=hJ xs busy n:=if_pos h
end Go.Proofs.YtmejbfmhaoilmaaGreat
/- What is proved: the words of an inode, and an inode read back, in plain Lean. No condition. -/
namespace Go.Proofs.YtmejbfmhaoilmaaGreat
open Go Go.RowKit
set_option linter.unusedVariables false
set_option linter.unusedSimpArgs false
theorem pT {x:aF} (h:cL x=0):∀(j:Nat) e,x.ents[j]? =some e→cK e.name=0∧0≤e.ino∧e.ino≤9:=by
  unfold cL at h
  split at h
  · split at h
    · exact absurd h (by decide)
    · rename_i h1 h2
      intro j e he
      have hj:=(List.getElem?_eq_some_iff.1 he).1
      split at h
      · omega
      · split at h
        · unfold jR at h
          split at h
          · exact absurd h (by decide)
          · have h3 := sS h j (List.mem_range.2 hj)
            unfold qA at h3
            rw [he] at h3
            simp only [oD] at h3
            split at h3
            · split at h3
              · rename_i h4 h5;exact⟨h4,h5⟩
              · exact absurd h3 (by decide)
            · contradiction
        · omega
  · exact absurd h (by decide)
end Go.Proofs.YtmejbfmhaoilmaaGreat
/- What is proved: a tree's faults, what a name leads to, in plain Lean. No condition. -/
namespace Go.Proofs.YtmejbfmhaoilmaaGreat
open Go Go.RowKit
set_option linter.unusedVariables false
set_option linter.unusedSimpArgs false
def bC (xs:List aF) (i:Int):Int:=match xs[i.toNat]? with | some x=>x.kind | none=>0
theorem cZ {xs:List aF}{i:Int}{j:Nat}{x:aF} (hx:xs[j]? =some x) (h:i=(j:Int)):bC xs i=x.kind:=by
  subst h
  unfold bC
  rw [Int.toNat_natCast,hx]
theorem oZ {xs:List aF}{i:Int} (h:(xs.length:Int)≤i):bC xs i=0:=by
  unfold bC
  rw [List.getElem?_eq_none (by omega)]
abbrev oS (xs:List aF) (e:bT):Prop:=bC xs e.ino=0
def fY (f:DFs):Int:=if bJ f.inodes=0 then if f.inodes.length=0∨¬bC f.inodes 0=2∨¬f.data.length=20 then 1 else 0 else bJ f.inodes
theorem dT {f:DFs} (h:¬bJ f.inodes=0):fY f=bJ f.inodes:=if_neg h
theorem dS {f:DFs} (h:bJ f.inodes=0) (h2:f.inodes.length=0∨¬bC f.inodes 0=2∨¬f.data.length=20):fY f=1:=by unfold fY;rw [if_pos h,if_pos h2]
theorem cD {f:DFs} (h:bJ f.inodes=0) (h1:¬f.inodes.length=0) (h2:bC f.inodes 0=2) (h3:f.data.length=20):fY f=0:=by unfold fY;rw [if_pos h,if_neg (by omega)]
theorem sL {f:DFs} (h:fY f=0):bJ f.inodes=0∧0<f.inodes.length∧bC f.inodes 0=2∧f.data.length=20:=by
  unfold fY at h
  split at h
  · split at h
    · exact absurd h (by decide)
    · rename_i h1 h2;exact⟨h1,by omega,by omega,by omega⟩
  · contradiction
def xW (f:DFs):Bool:=f.data.any (fun b=>decide ((8:Int)<(b.length:Int)))
def aAr (f:DFs):Bool:=f.inodes.any (fun x=>x.ents.any (fun e=>decide (oS f.inodes e)))
def bK (f:DFs):Int:=if fY f=0 then if xW f=true then 2 else if(eW f.inodes).Nodup then if aAr f=true then 4 else 0 else 7 else fY f
theorem dP {f:DFs} (h:¬fY f=0):bK f=fY f:=if_neg h
theorem fG {f:DFs} (h:fY f=0) (h2:xW f=true):bK f=2:=by unfold bK;rw [if_pos h,if_pos h2]
theorem fE {f:DFs} (h:fY f=0) (h2:xW f=false) (h3:¬(eW f.inodes).Nodup):bK f=7:=by unfold bK;rw [if_pos h,if_neg (by rw [h2];decide),if_neg h3]
theorem oI {f:DFs} (h:fY f=0) (h2:xW f=false) (h3:(eW f.inodes).Nodup) (h4:aAr f=true):bK f=4:=by unfold bK;rw [if_pos h,if_neg (by rw [h2];decide),if_pos h3,if_pos h4]
theorem fB {f:DFs} (h:fY f=0) (h2:xW f=false) (h3:(eW f.inodes).Nodup) (h4:aAr f=false):bK f=0:=by unfold bK;rw [if_pos h,if_neg (by rw [h2];decide),if_pos h3,if_neg (by rw [h4];decide)]
theorem aFt {f:DFs}{k:Nat}{b:List UInt8} (hb:f.data[k]? =some b) (h:(8:Int)<(b.length:Int)):xW f=true:=List.any_eq_true.2 ⟨b,List.mem_of_getElem? hb,decide_eq_true h⟩
theorem gP {f:DFs} (h:∀j b,j<f.data.length→f.data[j]? =some b→¬(8:Int)<(b.length:Int)):xW f=false:=by
  unfold xW
  rw [List.any_eq_false]
  intro b hb
  obtain⟨j,hj⟩:=List.mem_iff_getElem?.1 hb
  rw [decide_eq_false (h j b (List.getElem?_eq_some_iff.1 hj).1 hj)]
  decide
theorem qY {f:DFs}{k q:Nat}{x:aF}{e:bT} (hx:f.inodes[k]? =some x) (he:x.ents[q]? =some e) (h:oS f.inodes e):aAr f=true:=
  List.any_eq_true.2 ⟨x,List.mem_of_getElem? hx,List.any_eq_true.2 ⟨e,List.mem_of_getElem? he,decide_eq_true h⟩⟩
abbrev qC (xs:List aF) (x:aF):Prop:=∀(j:Nat) (e:bT),x.ents[j]? =some e→¬oS xs e
theorem jB {f:DFs} (h:∀j x,j<f.inodes.length→f.inodes[j]? =some x→qC f.inodes x):aAr f=false:=by
  unfold aAr
  rw [List.any_eq_false]
  intro x hx
  obtain⟨j,hj⟩:=List.mem_iff_getElem?.1 hx
  have h1:=h j x (List.getElem?_eq_some_iff.1 hj).1 hj
  rw [Bool.not_eq_true,List.any_eq_false]
  intro e he
  obtain⟨i,hi⟩:=List.mem_iff_getElem?.1 he
  rw [decide_eq_false (h1 i e hi)]
  decide
theorem qI {f:DFs} (h:bK f=0):fY f=0∧xW f=false∧(eW f.inodes).Nodup∧aAr f=false:=by
  unfold bK at h
  split at h
  · split at h
    · exact absurd h (by decide)
    · split at h
      · split at h
        · exact absurd h (by decide)
        · rename_i h1 h2 h3 h4;exact⟨h1,by simpa using h2,h3,by simpa using h4⟩
      · exact absurd h (by decide)
  · contradiction
theorem kC {f:DFs} (h:bK f=0):bJ f.inodes=0:=(sL (qI h).1).1
theorem aH0 {f:DFs} (h:aAr f=false) {k:Nat}{x:aF} (hx:f.inodes[k]? =some x):qC f.inodes x:=fun j e he hb=>by
  have:=qY hx he hb
  rw [h] at this
  cases this
theorem zC {xs:List aF}{e:bT} (h:¬oS xs e):e.ino<(xs.length:Int):=by
  apply Classical.byContradiction
  intro hn
  exact h (oZ (by omega))
def iT (f:DFs) (a:Int):Int:=if bK f=0 then if bY f.inodes.length a then if bC f.inodes a=2 then 0 else 9 else 3 else bK f
theorem rT {f:DFs}{a:Int} (h:¬bK f=0):iT f a=bK f:=if_neg h
theorem rW {f:DFs}{a:Int} (h:bK f=0) (h2:¬bY f.inodes.length a):iT f a=3:=by unfold iT;rw [if_pos h,if_neg h2]
theorem rQ {f:DFs}{a:Int} (h:bK f=0) (h2:bY f.inodes.length a) (h3:¬bC f.inodes a=2):iT f a=9:=by unfold iT;rw [if_pos h,if_pos h2,if_neg h3]
theorem rN {f:DFs}{a:Int} (h:bK f=0) (h2:bY f.inodes.length a) (h3:bC f.inodes a=2):iT f a=0:=by unfold iT;rw [if_pos h,if_pos h2,if_pos h3]
theorem aMj {f:DFs}{a:Int} (h:iT f a=0):bK f=0∧bY f.inodes.length a∧bC f.inodes a=2:=by
  unfold iT at h
  split at h
  · split at h
    · split at h
      · rename_i h1 h2 h3;exact⟨h1,h2,h3⟩
      · exact absurd h (by decide)
    · exact absurd h (by decide)
  · contradiction
def aH (xs:List aF) (a:Int):List bT:=match xs[a.toNat]? with | some x=>x.ents | none=> []
theorem dD {xs:List aF}{a:Int}{j:Nat}{x:aF} (hx:xs[j]? =some x) (h:a=(j:Int)):aH xs a=x.ents:=by
  subst h
  unfold aH
  rw [Int.toNat_natCast,hx]
abbrev dG (s:ByteArray):bT→Bool:=fun e=>decide (e.name=s)
def jE (es:List bT) (s:ByteArray):Int:=match es.find? (dG s) with | some e=>e.ino | none=> -1
theorem aEn {es:List bT}{s:ByteArray}{k:Nat}{e:bT} (he:es[k]? =some e) (h:e.name=s) (ha:∀j x,j<k→es[j]? =some x→¬x.name=s):jE es s=e.ino:=by
  have:es.find? (dG s)=some e:=by
    obtain⟨hk,rfl⟩:=List.getElem?_eq_some_iff.1 he
    refine List.find?_eq_some_iff_getElem.2 ⟨decide_eq_true h,k,hk,rfl,fun j hj=> ?_⟩
    have:=ha j _ hj (List.getElem?_eq_getElem (by omega))
    simpa using this
  unfold jE
  rw [this]
theorem gM {α:Type} (p:α→Bool) (xs:List α):fC p xs<(xs.length:Int)∧ -1≤fC p xs:=by
  unfold fC
  cases h:xs.findIdx? p with
  | none=>simp only;omega
  | some i=>
    have:=(List.findIdx?_eq_some_iff_getElem.1 h).1
    simp only;omega
theorem sW {es:List bT}{s:ByteArray}{x:bT} (h:¬fC (dG s) es<0) (hx:es[Int.toNat (fC (dG s) es)]? =some x):jE es s=x.ino:=by
  unfold fC at h hx
  cases hf:es.findIdx? (dG s) with
  | none=>rw [hf] at h;exact absurd (by decide:(-1:Int)<0) h
  | some i=>
    rw [hf] at hx
    simp only [Int.toNat_natCast] at hx
    obtain⟨hi,hp,hn⟩:=List.findIdx?_eq_some_iff_getElem.1 hf
    obtain⟨h1,rfl⟩:=List.getElem?_eq_some_iff.1 hx
    refine aEn hx (of_decide_eq_true hp) fun j y hj hy=> ?_
    obtain⟨h2,rfl⟩:=List.getElem?_eq_some_iff.1 hy
    have:=hn j hj
    simpa using this
theorem sA {es:List bT}{s:ByteArray} (h:fC (dG s) es<0):jE es s= -1:=by
  unfold fC at h
  cases hf:es.findIdx? (dG s) with
  | some i=>rw [hf] at h;simp only at h;omega
  | none=>
    have:es.find? (dG s)=none:=List.find?_eq_none.2 fun x hx=>by
      have:=List.findIdx?_eq_none_iff.1 hf x hx
      simpa using this
    unfold jE
    rw [this]
def mS (es:List bT) (k:Nat):List ByteArray:=(es.take k).map (·.name)
theorem aE3 {es:List bT}{k:Nat}{e:bT} (h:es[k]? =some e):mS es k++ [e.name]=mS es (k+1):=by
  unfold mS
  rw [←kQ h,List.map_append]
  rfl
theorem aBp {es:List bT}{k:Nat}:(mS es k).length≤es.length:=by
  unfold mS;rw [List.length_map,List.length_take];omega
def tI (es:List bT):List ByteArray:=es.map (·.name)
theorem aAs {es:List bT}{k:Nat} (h:es.length≤k):mS es k=tI es:=by unfold mS tI;rw [List.take_of_length_le h]
def tS (f:DFs) (a:Int):aFo:=if iT f a=0 then⟨0,tI (aH f.inodes a)⟩else⟨iT f a,[]⟩
theorem aA2 {f:DFs}{a:Int} (h:¬iT f a=0):tS f a=⟨iT f a,[]⟩:=if_neg h
theorem aA1 {f:DFs}{a:Int} (h:iT f a=0):tS f a=⟨0,tI (aH f.inodes a)⟩:=if_pos h
def aAt (f:DFs) (a:Int):Prop:=iT f a=0∧(aH f.inodes a).length=0
instance (f:DFs) (a:Int):Decidable (aAt f a):=by unfold aAt;infer_instance
end Go.Proofs.YtmejbfmhaoilmaaGreat
/- What is proved: elements taken out of a slice of one's own, in place. No condition. -/
namespace Go.Proofs.YtmejbfmhaoilmaaGreat
open Go Go.RowKit
set_option linter.unusedVariables false
set_option linter.unusedSimpArgs false
theorem cJ.sublist {l l':List Asn} (h:l'.Sublist l):∀{w:World}{S:Bs},cJ l w S→cJ l' w S:=by
  induction h with
  | slnil=>exact fun h=>h
  | cons c _ ih=>exact fun h=>ih h.drop
  | cons_cons c _ ih=>
    intro w S ⟨A,B,h1,h2,a,b,d⟩
    exact⟨A,B,h1,ih h2,a,b,d⟩
theorem aAa {css:List (List Value)}{n:Nat} (hl:∀c,c∈css→c.length=n) (i:Nat):(css.take i).flatten=css.flatten.take (i * n):=by
  induction css generalizing i with
  | nil=>simp
  | cons d css ih=>
    have hd:=hl d List.mem_cons_self
    cases i with
    | zero=>simp
    | succ i=>
      simp only [List.take_succ_cons,List.flatten_cons]
      rw [ih (fun c hc=>hl c (List.mem_cons_of_mem _ hc)) i,List.take_append,List.take_of_length_le (l:=d) (by rw [hd,Nat.succ_mul];omega),hd,Nat.succ_mul,Nat.add_sub_cancel]
section
variable {P:Program}{T:eX}{Wd:World→Prop}{o:Oper}{N:Nat}{w0:World}{S0:Bs}{l l' lk:List Asn}
end
end Go.Proofs.YtmejbfmhaoilmaaGreat
/- What is proved: the library's contracts of Sort and Compact over rows of numbers, told of one's own slice. No condition. -/
namespace Go.Proofs.YtmejbfmhaoilmaaGreat
open Go Go.RowKit
open Go.Sort (putRow grow putCells mapBlock)
set_option linter.unusedVariables false
set_option linter.unusedSimpArgs false
theorem vV {k : IntKind} {w : World} {S : Bs} : ∀ {zs : List Int} {css : List (List Value)}, css.length = zs.length → cJ (jW (gV k) zs css) w S → css = zs.map (fun z => [Value.int k z])
  | [],[],_,_=>rfl
  | z :: zs,c :: css,hl,h=>by
    have h1:(gV k).own w S z c:=h.head (c:=aG (gV k) z c)
    rw [vV (by simpa using hl) (h.drop (c:=aG (gV k) z c)),List.map_cons,h1.1]
  | [],_ :: _,hl,_=>by simp at hl
  | _ :: _,[],hl,_=>by simp at hl
theorem aB2 {k : IntKind} {w : World} {S : Bs} : ∀ zs : List Int, cJ (jW (gV k) zs (zs.map (fun z => [Value.int k z]))) w S
  | []=>trivial
  | z :: zs=>⟨fun _=>False,S,⟨rfl,trivial⟩,aB2 zs,fun _ h=>h.elim,fun _ h=>h,fun _ h=>h.elim⟩
theorem aGo {k:IntKind} (zs:List Int):(zs.map (fun z=> [Value.int k z])).flatten=zs.map (Value.int k):=by
  induction zs with
  | nil=>rfl
  | cons z zs ih=>simp [ih]
theorem own_holds {e by_:Nat}{w:World}{S:Bs}{zs:List Int}{v:Value} (h:(bQ e by_ (gV .i64)).own w S zs [v]) (hp:0<zs.length):
    ∃g c,v= .slice (some ⟨g,0,none⟩) zs.length c∧zs.length≤c∧g<w.heap.size∧Go.Sort.Holds (Value.int .i64) w g 0 zs.toArray∧zs.length * by_≤140737488355328∧c≤9223372036854775807∧
      ∀(zs':List Int) (n:Nat) (os:Array Obj),zs'.length=zs.length→(bQ e by_ (gV .i64)).own (grow (putRow (Value.int .i64) (Sort.ahead w n) g 0 zs'.toArray) os) S zs' [v]∧Fr w S (grow (putRow (Value.int .i64) (Sort.ahead w n) g 0 zs'.toArray) os):=by
  rcases h with ⟨A,h1,rfl⟩ |⟨g,c,css,h1,h2,h3,h4,h5,h6⟩
  · exact absurd hp (by simp)
  obtain rfl:v= .slice (some ⟨g,0,none⟩) zs.length c:=by simpa using h1
  obtain⟨S1,S2,⟨hg,cur,k1,k2,k3,k4⟩,hseq,a1,a2,a3⟩:=h6
  have hcss:=vV h5 hseq
  subst hcss
  rw [aGo] at k3 k4
  simp only [List.length_map] at k3 k4
  have hlt:g<w.heap.size:=(Array.getElem?_eq_some_iff.1 k1).1
  have hcell:∀j,j<zs.length→cur[j]? =some (.int .i64 (zs[j]!)):=fun j hj=>by
    have:(cur.toList.take zs.length)[j]? =(zs.map (Value.int .i64))[j]? :=by rw [k4]
    rw [List.getElem?_take,if_pos hj,List.getElem?_map,List.getElem?_eq_getElem hj] at this
    rw [Array.getElem?_toList] at this
    rw [this,getElem!_pos zs j hj]
    rfl
  refine⟨g,c,rfl,h2,hlt,fun j hj=>⟨?_,?_⟩,h4,h3,fun zs' n os hl=> ?_⟩
  · have hj' : j < zs.length := by simpa using hj
    rw [cell_of_row w g (0+j) cur e (0,0) k1,Nat.zero_add,hcell j hj']
    simp [getElem!_pos zs j hj',getElem!_pos zs.toArray j hj]
  · simp [World.frozen?,k1]
  · have hb:(grow (putRow (Value.int .i64) (Sort.ahead w n) g 0 zs'.toArray) os).heap[g]? =some (.cells (putCells (Value.int .i64) 0 zs'.toArray cur) e (0,0)):=by
      simp only [grow,putRow,mapBlock,Sort.ahead]
      rw [Array.getElem?_append_left (by simpa using hlt),Array.getElem?_modify,if_pos rfl,k1]
      rfl
    have ho:∀b,b<w.heap.size→b≠g→(grow (putRow (Value.int .i64) (Sort.ahead w n) g 0 zs'.toArray) os).heap[b]? =w.heap[b]? :=fun b hb hne=>by
      simp only [grow,putRow,mapBlock,Sort.ahead]
      rw [Array.getElem?_append_left (by simpa using hb),Array.getElem?_modify,if_neg (fun e=>hne e.symm)]
    have hsz:w.heap.size≤(grow (putRow (Value.int .i64) (Sort.ahead w n) g 0 zs'.toArray) os).heap.size:=by simp [grow,putRow,mapBlock,Sort.ahead]
    have hfr:Fr w S (grow (putRow (Value.int .i64) (Sort.ahead w n) g 0 zs'.toArray) os):=⟨rfl,rfl,rfl,hsz,fun b hb hn=>ho b hb (fun e=>hn (e ▸ a1 g hg))⟩
    refine⟨.inr ⟨g,c,zs'.map (fun z=> [Value.int .i64 z]),by rw [hl],by omega,h3,by rw [hl];exact h4,by simp,?_⟩,hfr⟩
    refine⟨S1,fun _=>False,⟨hg,_,hb,?_,?_,?_⟩,aB2 zs',a1,fun _ h=>h.elim,fun _ _ h=>h⟩
    · simpa [putCells] using k2
    · rw [aGo]
      simp only [putCells,Array.size_mapIdx,List.length_map]
      omega
    · rw [aGo]
      apply List.ext_getElem?
      intro j
      rw [List.getElem?_take,List.length_map]
      split
      · rename_i hj
        have hjc:j<cur.size:=by omega
        rw [Array.getElem?_toList,putCells,Array.getElem?_mapIdx,Array.getElem?_eq_getElem hjc,Option.map_some,if_pos ⟨by omega,by simpa using hj⟩,List.getElem?_map,List.getElem?_eq_getElem hj,Option.map_some]
        simp [getElem!_pos zs'.toArray j (by simpa using hj)]
      · rw [List.getElem?_eq_none (by rw [List.length_map];omega)]
theorem aA3 {e by_:Nat}{w:World}{S:Bs}{zs:List Int}{v:Value} (h:(bQ e by_ (gV .i64)).own w S zs [v]) (hp:¬0<zs.length):zs= []∧∃A c,v= .slice A 0 c:=by
  have h0:zs= []:=List.length_eq_zero_iff.1 (by omega)
  subst h0
  obtain⟨A,c,h1,_⟩:=xP h
  exact⟨rfl,A,c,by simpa using h1⟩
theorem aFm {P : Program} {f : FuncId} {e by_ : Nat} {w0 : World} {S0 : Bs} {zs : List Int} {v0 : Value}
    (h1:∀(blk off cap:Nat) (zs:List Int) (w:World),Go.Sort.Holds (Value.int .i64) w blk off zs.toArray→blk<w.heap.size→zs.length<4611686018427387904→Calls P f #[.slice (some ⟨blk,off,none⟩) zs.length cap] w fun e w'=>e= .returned (.tuple #[])∧∃n os,w'=grow (putRow (Value.int .i64) (Sort.ahead w n) blk off (zs.mergeSort fun x y=>decide (x≤y)).toArray) os)
    (h2:∀(p:Option Addr) (cap:Nat) (w:World),Calls P f #[.slice p 0 cap] w fun e w'=>e= .returned (.tuple #[])∧w'=w) (h8:8≤by_)
    (hs:cJ [aG (bQ e by_ (gV .i64)) zs [v0]] w0 S0):Calls P f #[v0] w0 (aI w0 S0 (fun r l=>r= .tuple #[]∧l= [aG (bQ e by_ (gV .i64)) (jQ zs) [v0]])):=by
  have ho:(bQ e by_ (gV .i64)).own w0 S0 zs [v0]:=hs.head (c:=aG (bQ e by_ (gV .i64)) zs [v0])
  by_cases hp:0<zs.length
  · obtain ⟨g, c, rfl, g1, g2, g3, g4, g5, g6⟩ := own_holds ho hp
    have hb:zs.length * 8≤zs.length * by_:=Nat.mul_le_mul_left _ h8
    refine(h1 g 0 c zs w0 g3 g2 (by omega)).mono fun e' w' ⟨he,n,os,hw⟩=> ?_
    obtain⟨k1,k2⟩:=g6 (jQ zs) n os (yV zs)
    have hw':w'=grow (putRow (Value.int .i64) (Sort.ahead w0 n) g 0 (jQ zs).toArray) os:=hw
    subst hw'
    exact⟨_,_,he,⟨rfl,rfl⟩,S0,cJ.one (c:=aG (bQ e by_ (gV .i64)) (jQ zs) _) k1,fun b hb=> .inl hb,k2⟩
  · obtain ⟨rfl, A, c, rfl⟩ := aA3 ho hp
    refine(h2 A c w0).mono fun e' w' ⟨he,hw⟩=> ?_
    subst hw
    have e0:jQ []= []:=by simp [jQ]
    exact⟨_,_,he,⟨rfl,rfl⟩,S0,by rw [e0];exact hs,fun b hb=> .inl hb,Fr.refl _ _⟩
theorem aFh (w:World):grow w #[]=w:=by cases w;simp [grow]
theorem aBh {P : Program} {f : FuncId} {e by_ : Nat} {w0 : World} {S0 : Bs} {zs : List Int} {v0 : Value}
    (h1:∀(blk off cap:Nat) (zs:List Int) (w:World),Go.Sort.Holds (Value.int .i64) w blk off zs.toArray→zs.length≤9223372036854775807→zs.length≤cap→Calls P f #[.slice (some ⟨blk,off,none⟩) zs.length cap] w fun e w'=>e= .returned (.slice (some ⟨blk,off,none⟩) (Lib.compact zs).length cap)∧∃q,w'=putRow (Value.int .i64) (Sort.ahead w q) blk off (Lib.compact zs++List.replicate (zs.length - (Lib.compact zs).length) 0).toArray)
    (h2:∀(a:Option Addr) (cap:Nat) (w:World),Calls P f #[.slice a 0 cap] w fun e w'=>e= .returned (.slice a 0 cap)∧w'=w)
    (hs:cJ [aG (bQ e by_ (gV .i64)) zs [v0]] w0 S0):Calls P f #[v0] w0 (aI w0 S0 (fun r l=>∃z:Option Addr×Nat,r= .slice z.1 (Lib.compact zs).length z.2∧l= [])):=by
  have ho:(bQ e by_ (gV .i64)).own w0 S0 zs [v0]:=hs.head (c:=aG (bQ e by_ (gV .i64)) zs [v0])
  by_cases hp:0<zs.length
  · obtain ⟨g, c, rfl, g1, g2, g3, g4, g5, g6⟩ := own_holds ho hp
    refine(h1 g 0 c zs w0 g3 (by omega) g1).mono fun e' w' ⟨he,q,hw⟩=> ?_
    obtain⟨k1,k2⟩:=g6 (Lib.compact zs++List.replicate (zs.length - (Lib.compact zs).length) 0) q #[] (by have:=aAw zs;simp;omega)
    have hw':w'=grow (putRow (Value.int .i64) (Sort.ahead w0 q) g 0 (Lib.compact zs++List.replicate (zs.length - (Lib.compact zs).length) 0).toArray) #[]:=by rw [hw,aFh]
    subst hw'
    exact⟨_,_,he,⟨(_,_),rfl,rfl⟩,S0,trivial,fun b hb=> .inl hb,k2⟩
  · obtain ⟨rfl, A, c, rfl⟩ := aA3 ho hp
    refine(h2 A c w0).mono fun e' w' ⟨he,hw⟩=> ?_
    subst hw
    have e0:(Lib.compact ([]:List Int)).length=0:=rfl
    exact⟨_,_,he,⟨(A,c),by rw [e0],rfl⟩,S0,trivial,fun b hb=> .inl hb,Fr.refl _ _⟩
theorem Y.aj {N:Nat}{w0:World}{S0:Bs}{F:Act→World→Prop}{T:eX}{l l':List Asn}{c c':Asn} (h:fK l c l') (e:c=c') (k:Y N w0 S0 F T (c' :: l')):Y N w0 S0 F T l:=by subst e;exact Y.take h k
theorem aB3 {α:Type}{K:Kd α}{e by_ n c:Nat}{xs:List α}{A:Option Addr} (hn:n≤xs.length) (w:World) (S:Bs) (h:cJ [aG (bQ e by_ K) xs [.slice A xs.length c]] w S):(aG (bQ e by_ K) (xs.take n) [.slice A n c]).p w S:=by
  have hl:(xs.take n).length=n:=by rw [List.length_take];omega
  rcases(show(bQ e by_ K).own w S xs [.slice A xs.length c] from h.head (c:=aG (bQ e by_ K) xs _)) with ⟨A',h1,rfl⟩ |⟨g,c',css,h1,h2,h3,h4,h5,h6⟩
  · obtain rfl : n = 0 := by simpa using hn
    injection h1 with h1 _
    injection h1 with h1 h2 h3
    subst h3
    exact .inl ⟨A,rfl,rfl⟩
  · injection h1 with h1 _
    injection h1 with h1 _ h3'
    subst h1;subst h3'
    obtain⟨S1,S2,⟨hg,cur,k1,k2,k3,k4⟩,hseq,a1,a2,a3⟩:=h6
    have hlc:=pW h5 hseq
    have hft:=aAa hlc n
    refine .inr ⟨g,c,css.take n,by rw [hl],by omega,h3,?_,by rw [List.length_take,List.length_take,h5],?_⟩
    · rw [hl];exact Nat.le_trans (Nat.mul_le_mul_right _ hn) h4
    · refine ⟨S1, S2, ⟨hg, cur, k1, k2, ?_, ?_⟩, ?_, a1, a2, a3⟩
      · rw [hft,List.length_take];omega
      · rw [hft, List.length_take]
        have:cur.toList.take (min (n * K.sz) css.flatten.length)=(cur.toList.take css.flatten.length).take (n * K.sz):=by rw [List.take_take]
        rw [this,k4]
      · have : jW K (xs.take n) (css.take n) = (jW K xs css).take n := by simp [jW, List.take_zipWith]
        rw [this]
        exact cJ.sublist (List.take_sublist _ _) hseq
theorem pJ {α:Type}{K:Kd α}{e by_ n c:Nat}{xs:List α}{A:Option Addr} (hn:n≤xs.length) (w:World) (S:Bs) (h:cJ [aG (bQ e by_ K) xs [.slice A xs.length c]] w S):(aG (bQ e by_ K) (xs.take n) [.slice A (xs.take n).length c]).p w S:=by
  have:=aB3 hn w S h
  rwa [show(xs.take n).length=n by rw [List.length_take];omega]
theorem WS.w {w0:World}{S0:Bs}{l l':List Asn}{α:Type}{K:Kd α}{e by_:Nat}{xs:List α}{A:Option Addr}{n c:Nat} (ht:fK l (aG (bQ e by_ K) xs [.slice A n c]) l'):∀w,WS w0 S0 l w→n=xs.length∧n≤c∧c≤9223372036854775807∧n * by_≤140737488355328:=fun w hw=>by
  obtain⟨A',c',h,h1,h2,h3⟩:=WS.a ht w hw
  injection h with _ h4 h5
  subst h4;subst h5
  exact⟨rfl,h1,h2,h3⟩
section
variable {P:Program}{T:eX}{Wd:World→Prop}{o:Oper}
theorem lP {x:Operand}{t e:TypeId}{sz b n c:Nat}{z:Operand}{k:IntKind}{A:Option Addr} (ho:o.op= .slice t x none (some z) none) (ht:P.underlying t=some (.slice e)) (he:(P.info? e).map (·.size)=some sz) (hx:Val T x (.slice A n c)) (hz:Val T z (.int k (b:Int))) (h:b≤c):eT P o T Wd (.slice A b c):=by
  have:=aC9 (a:=0) (b:=b) (Wd:=Wd) ho ht he hx (.inl ⟨rfl,rfl⟩) (.inr ⟨_,_,rfl,hz⟩) (by omega) h
  have e1:(if c=0 then A else A.map (·.add (0 * sz)))=A:=by
    split
    · rfl
    · cases A with
      | none=>rfl
      | some a=>simp [Addr.add]
  rw [e1] at this
  simpa using this
end
end Go.Proofs.YtmejbfmhaoilmaaGreat
/- What is proved: what can be reached in a tree, by a stack and by rounds, in plain Lean. No condition. -/
namespace Go.Proofs.YtmejbfmhaoilmaaGreat
open Go Go.RowKit
set_option linter.unusedVariables false
set_option linter.unusedSimpArgs false
inductive oA (xs : List aF) (r : Nat) : Nat → Prop
  | refl:oA xs r r
  | step {i q:Nat}{x:aF}{e:bT}:oA xs r i→xs[i]? =some x→x.ents[q]? =some e→oA xs r e.ino.toNat
noncomputable def aCr (xs:List aF) (r:Nat):Int→Bool:=fun a=> @decide (oA xs r a.toNat) (Classical.propDecidable _)
noncomputable def lW (xs:List aF) (r:Nat):List Int:=cB (aCr xs r) xs.length
theorem xI {xs:List aF}{r:Nat}{a:Int}:aCr xs r a=true↔oA xs r a.toNat:=by
  unfold aCr
  exact @decide_eq_true_iff _ (Classical.propDecidable _)
abbrev On (b:List Bool) (i:Nat):Prop:=b[i]? =some true
theorem nW {b:List Bool}{j i:Nat} (hj:j<b.length):On (b.set j true) i↔(i=j∨On b i):=by
  unfold On
  rw [List.getElem?_set]
  by_cases h:j=i
  · subst h;simp [hj]
  · rw [if_neg h]
    constructor
    · exact .inr
    · rintro (rfl | h2)
      · exact absurd rfl h
      · exact h2
theorem tU {xs:List aF}{r:Nat}{S:Nat→Prop} (h0:S r) (hc:∀(i q:Nat) x e,S i→xs[i]? =some x→x.ents[q]? =some e→S e.ino.toNat):∀i,oA xs r i→S i:=fun i h=>by
  induction h with
  | refl=>exact h0
  | step _ hx he ih=>exact hc _ _ _ _ ih hx he
structure Dfs (xs : List aF) (r : Nat) (b : List Bool) (op : List Int) : Prop where
  len:b.length=xs.length
  snd:∀i,On b i→oA xs r i
  opn:∀a,a∈op→(0≤a∧a<(xs.length:Int))∧oA xs r a.toNat
  top:On b r∨(r:Int)∈op
  cls:∀(i q:Nat) x e,On b i→xs[i]? =some x→x.ents[q]? =some e→On b e.ino.toNat∨e.ino∈op
theorem aHj {xs : List aF} {r : Nat} (hr : r < xs.length) : Dfs xs r (List.replicate xs.length false) [(r : Int)] where
  len:=by simp
  snd i h:=by
    exfalso
    unfold On at h
    rw [List.getElem?_replicate] at h
    split at h <;> simp at h
  opn a ha:=by
    obtain rfl:=List.mem_singleton.1 ha
    exact⟨by omega,by rw [Int.toNat_natCast];exact .refl⟩
  top:= .inr (List.mem_singleton.2 rfl)
  cls i q x e h:=by
    exfalso
    unfold On at h
    rw [List.getElem?_replicate] at h
    split at h <;> simp at h
theorem yX {α:Type}{op:List α}{a:α} (ha:op[op.length - 1]? =some a):op=op.take (op.length - 1)++ [a]:=by
  have:=kQ ha
  rw [this,List.take_of_length_le]
  have:=(List.getElem?_eq_some_iff.1 ha).1
  omega
theorem aG3 {xs:List aF}{r:Nat}{b:List Bool}{op:List Int}{a:Int} (h:Dfs xs r b op) (ha:op[op.length - 1]? =some a) (hs:On b a.toNat):Dfs xs r b (op.take (op.length - 1)):=by
  have he:=yX ha
  have hm:∀c,c∈op→c=a∨c∈op.take (op.length - 1):=fun c hc=>by
    rw [he] at hc
    rcases List.mem_append.1 hc with h1 | h1
    · exact .inr h1
    · exact .inl (List.mem_singleton.1 h1)
  refine⟨h.len,h.snd,fun c hc=>h.opn c (List.mem_of_mem_take hc),?_,fun i q x e hi hx hq=> ?_⟩
  · rcases h.top with h1 | h1
    · exact .inl h1
    · rcases hm _ h1 with h2 | h2
      · exact .inl (by rw [←h2,Int.toNat_natCast] at hs;exact hs)
      · exact .inr h2
  · rcases h.cls i q x e hi hx hq with h1 | h1
    · exact .inl h1
    · rcases hm _ h1 with h2 | h2
      · exact .inl (by rw [h2];exact hs)
      · exact .inr h2
def lM (es:List bT) (k:Nat):List Int:=(es.take k).map (·.ino)
theorem aF1 {op:List Int}{es:List bT}{k:Nat}{e:bT} (h:es[k]? =some e):(op++lM es k)++ [e.ino]=op++lM es (k+1):=by
  unfold lM
  rw [←kQ h,List.map_append,List.append_assoc]
  rfl
theorem aFe (op:List Int) (es:List bT):op=op++lM es 0:=by simp [lM]
theorem sN {es:List bT}{k:Nat}:(lM es k).length≤es.length:=by
  unfold lM;rw [List.length_map,List.length_take];omega
theorem aIf {xs:List aF}{r:Nat}{b:List Bool}{op:List Int}{a:Int}{x:aF}{k:Nat} (hI:bJ xs=0) (hG:∀(j:Nat) x,xs[j]? =some x→qC xs x) (h:Dfs xs r b op) (ha:op[op.length - 1]? =some a) (hx:xs[a.toNat]? =some x) (hk:x.ents.length≤k):
    Dfs xs r (b.set a.toNat true) (op.take (op.length - 1)++lM x.ents k):=by
  have he:=yX ha
  have hmem:a∈op:=by rw [he];exact List.mem_append.2 (.inr (List.mem_singleton.2 rfl))
  have hop:=h.opn a hmem
  have hlt:a.toNat<b.length:=by rw [h.len];omega
  have hm:∀c,c∈op→c=a∨c∈op.take (op.length - 1):=fun c hc=>by
    rw [he] at hc
    rcases List.mem_append.1 hc with h1 | h1
    · exact .inr h1
    · exact .inl (List.mem_singleton.1 h1)
  have hin:lM x.ents k=x.ents.map (·.ino):=by unfold lM;rw [List.take_of_length_le hk]
  refine⟨by rw [List.length_set];exact h.len,fun i hi=> ?_,fun c hc=> ?_,?_,fun i q y e hi hy hq=> ?_⟩
  · rcases (nW hlt).1 hi with rfl | h1
    · exact hop.2
    · exact h.snd i h1
  · rcases List.mem_append.1 hc with h1 | h1
    · exact h.opn c (List.mem_of_mem_take h1)
    · rw [hin] at h1
      obtain⟨e,hem,rfl⟩:=List.mem_map.1 h1
      obtain⟨q,hq⟩:=List.mem_iff_getElem?.1 hem
      have h2:=zC (hG _ x hx q e hq)
      have h3:=pT (dI hI x (List.mem_of_getElem? hx)) q e hq
      exact⟨⟨h3.2.1,h2⟩,.step hop.2 hx hq⟩
  · rcases h.top with h1 | h1
    · exact .inl ((nW hlt).2 (.inr h1))
    · rcases hm _ h1 with h2 | h2
      · exact .inl ((nW hlt).2 (.inl (by rw [←h2,Int.toNat_natCast])))
      · exact .inr (List.mem_append.2 (.inl h2))
  · rcases (nW hlt).1 hi with rfl | h1
    · rw [hx] at hy
      obtain rfl:=Option.some.inj hy
      exact .inr (List.mem_append.2 (.inr (by rw [hin];exact List.mem_map.2 ⟨e,List.mem_of_getElem? hq,rfl⟩)))
    · rcases h.cls i q y e h1 hy hq with h2 | h2
      · exact .inl ((nW hlt).2 (.inr h2))
      · rcases hm _ h2 with h3 | h3
        · exact .inl ((nW hlt).2 (.inl (by rw [h3])))
        · exact .inr (List.mem_append.2 (.inl h3))
theorem aH6 {xs:List aF}{r:Nat}{b:List Bool}{op:List Int} (h:Dfs xs r b op) (h0:op.length=0):∀i,On b i↔oA xs r i:=by
  obtain rfl:=List.length_eq_zero_iff.1 h0
  have hr:On b r:=h.top.elim id (fun h=>by cases h)
  exact fun i=>⟨h.snd i,tU hr (fun i q x e hi hx hq=>(h.cls i q x e hi hx hq).elim id (fun h=>by cases h)) i⟩
def aCs (b:List Bool):Nat:=b.count false
theorem vU : ∀ {b : List Bool} {j : Nat}, b[j]? = some false → aCs (b.set j true) + 1 = aCs b
  | [],j,h=>by simp at h
  | c :: b,0,h=>by
    simp at h
    subst h
    simp [aCs]
  | c :: b,j+1,h=>by
    have ih:=vU (b:=b) (j:=j) (by simpa using h)
    unfold aCs at ih ⊢
    simp only [List.set_cons_succ,List.count_cons]
    omega
theorem aGw {b:List Bool}{j:Nat} (hj:j<b.length) (h:¬On b j):b[j]? =some false:=by
  unfold On at h
  rw [List.getElem?_eq_getElem hj] at h ⊢
  cases hb:b[j]
  · rfl
  · exact absurd (by rw [hb]) h
abbrev onP (b:List Bool):Int→Bool:=fun a=>b.getD a.toNat false
theorem zM {b:List Bool}{k:Nat}{c:Bool} (h:b[k]? =some c):onP b (k:Int)=c:=by
  unfold onP
  rw [Int.toNat_natCast,List.getD_eq_getElem?_getD,h]
  rfl
theorem wK {xs:List aF}{r:Nat}{b:List Bool}{k:Nat} (h:∀i,On b i↔oA xs r i) (hl:b.length=xs.length) (hk:k=b.length):cB (onP b) k=lW xs r:=by
  unfold lW
  rw [hk,hl]
  refine xR fun a h1 h2=> ?_
  rw [Bool.eq_iff_iff,xI,←h]
  unfold onP On
  rw [List.getD_eq_getElem?_getD]
  cases hb:b[a.toNat]? with
  | none=>simp
  | some c=>simp
abbrev LeB (b c:List Bool):Prop:=∀i,On b i→On c i
def onN (b:List Bool):Nat:=b.count true
theorem aIj (b:List Bool):onN b≤b.length:=List.count_le_length
theorem aCf : ∀ {b c : List Bool}, b.length = c.length → LeB b c → b = c ∨ onN b < onN c
  | [],[],_,_=> .inl rfl
  | x :: b,y :: c,hl,hle=>by
    have h1:LeB b c:=fun i hi=>by have:=hle (i+1) (by simpa [On] using hi);simpa [On] using this
    have h0:x=true→y=true:=fun hx=>by have:=hle 0 (by simp [On,hx]);simpa [On] using this
    rcases aCf (b:=b) (c:=c) (by simpa using hl) h1 with rfl | h2
    · cases x <;> cases y <;> simp [onN] at h0 ⊢
    · right
      unfold onN at h2 ⊢
      simp only [List.count_cons]
      cases x <;> cases y <;> simp at h0 ⊢ <;> omega
  | [],_ :: _,hl,_=>by simp at hl
  | _ :: _,[],hl,_=>by simp at hl
abbrev Clo (xs:List aF) (b:List Bool):Prop:=∀(i q:Nat) x e,On b i→xs[i]? =some x→x.ents[q]? =some e→On b e.ino.toNat
structure Rnd (xs : List aF) (k : Nat) (b : List Bool) : Prop where
  len:b.length=xs.length
  snd:∀i,On b i→oA xs 0 i
  top:On b 0
  prog:Clo xs b∨k+1≤onN b
structure Mid (xs : List aF) (b0 : List Bool) (i : Nat) (b : List Bool) : Prop where
  len:b.length=xs.length
  snd:∀i,On b i→oA xs 0 i
  le:LeB b0 b
  don:∀(j q:Nat) x e,j<i→On b0 j→xs[j]? =some x→x.ents[q]? =some e→On b e.ino.toNat
theorem aF8 {xs:List aF}{k:Nat}{b:List Bool} (h:Rnd xs k b):Mid xs b 0 b:=⟨h.len,h.snd,fun _ h=>h,fun j _ _ _ hj=>absurd hj (Nat.not_lt_zero j)⟩
theorem aFk {xs:List aF}{k i:Nat}{b0 b:List Bool} (h0:Rnd xs k b0) (h:Mid xs b0 i b) (hi:xs.length≤i):Rnd xs (k+1) b:=by
  refine⟨h.len,h.snd,h.le 0 h0.top,?_⟩
  have hd:∀(j q:Nat) x e,On b0 j→xs[j]? =some x→x.ents[q]? =some e→On b e.ino.toNat:=fun j q x e hj hx hq=>h.don j q x e (by have:=(List.getElem?_eq_some_iff.1 hx).1;omega) hj hx hq
  rcases aCf (h0.len.trans h.len.symm) h.le with rfl | hlt
  · exact .inl hd
  · rcases h0.prog with hc | hc
    · exfalso
      have:b0=b:=by
        have hle:LeB b b0:=fun j hj=>tU h0.top hc j (h.snd j hj)
        rcases aCf (h.len.trans h0.len.symm) hle with h1 | h1
        · exact h1.symm
        · omega
      subst this
      omega
    · exact .inr (by omega)
theorem aH4 {xs:List aF}{k:Nat}{b:List Bool} (h:Rnd xs k b) (hk:xs.length≤k):∀i,On b i↔oA xs 0 i:=by
  have hc:Clo xs b:=h.prog.elim id (fun h1=>by have:=aIj b;have:=h.len;omega)
  exact fun i=>⟨h.snd i,tU h.top hc i⟩
structure Inn (xs : List aF) (b0 : List Bool) (i : Nat) (x : aF) (q : Nat) (b : List Bool) : Prop where
  mid:Mid xs b0 i b
  don:∀(j:Nat) e,j<q→x.ents[j]? =some e→On b e.ino.toNat
theorem aGf {xs:List aF}{b0 b:List Bool}{i:Nat}{x:aF} (h:Mid xs b0 i b):Inn xs b0 i x 0 b:=⟨h,fun j _ hj=>absurd hj (Nat.not_lt_zero j)⟩
theorem aHa {xs:List aF}{b0 b:List Bool}{i q:Nat}{x:aF}{e:bT} (h:Inn xs b0 i x q b) (hx:xs[i]? =some x) (he:x.ents[q]? =some e) (hb:On b i) (hl:e.ino.toNat<b.length):Inn xs b0 i x (q+1) (b.set e.ino.toNat true):=by
  have up:∀j,On b j→On (b.set e.ino.toNat true) j:=fun j hj=>(nW hl).2 (.inr hj)
  refine⟨⟨by rw [List.length_set];exact h.mid.len,fun j hj=> ?_,fun j hj=>up j (h.mid.le j hj),fun j p y d hj hb0 hy hd=>up _ (h.mid.don j p y d hj hb0 hy hd)⟩,fun j d hj hd=> ?_⟩
  · rcases (nW hl).1 hj with rfl | h1
    · exact .step (h.mid.snd i hb) hx he
    · exact h.mid.snd j h1
  · by_cases hq : j < q
    · exact up _ (h.don j d hq hd)
    · obtain rfl : j = q := by omega
      rw [he] at hd
      obtain rfl:=Option.some.inj hd
      exact(nW hl).2 (.inl rfl)
theorem aBu {xs:List aF}{b0 b:List Bool}{i q:Nat}{x:aF} (h:Inn xs b0 i x q b) (hx:xs[i]? =some x) (hq:On b i→x.ents.length≤q):Mid xs b0 (i+1) b:=by
  refine⟨h.mid.len,h.mid.snd,h.mid.le,fun j p y d hj hb0 hy hd=> ?_⟩
  by_cases hji:j<i
  · exact h.mid.don j p y d hji hb0 hy hd
  · obtain rfl : j = i := by omega
    rw [hx] at hy
    obtain rfl:=Option.some.inj hy
    have:=hq (h.mid.le _ hb0)
    exact h.don p d (by have:=(List.getElem?_eq_some_iff.1 hd).1;omega) hd
theorem aFl {xs:List aF} (h0:0<xs.length):Rnd xs 0 ((List.replicate xs.length false).set 0 true):=by
  have hl:0<(List.replicate xs.length false).length:=by simpa using h0
  refine⟨by simp,fun i hi=> ?_,(nW hl).2 (.inl rfl),.inr ?_⟩
  · rcases (nW hl).1 hi with rfl | h1
    · exact .refl
    · exfalso
      unfold On at h1
      rw [List.getElem?_replicate] at h1
      split at h1 <;> simp at h1
  · cases hn:xs.length with
    | zero=>omega
    | succ n=>simp [List.replicate_succ,onN]
theorem uJ {f:DFs} (h:bK f=0):∀(j:Nat) x,f.inodes[j]? =some x→qC f.inodes x:=fun _ _ hx=>aH0 (qI h).2.2.2 hx
theorem yB {f:DFs} (h:bK f=0):0<f.inodes.length:=(sL (qI h).1).2.1
end Go.Proofs.YtmejbfmhaoilmaaGreat
/- What is proved: a whole file system's fault, the bytes of a file, in plain Lean. No condition. -/
namespace Go.Proofs.YtmejbfmhaoilmaaGreat
open Go Go.RowKit
set_option linter.unusedVariables false
set_option linter.unusedSimpArgs false
def eM (a b:Int):Int:=if a<b then a else b
theorem jC (a b:Int):eM a b≤a∧eM a b≤b∧(eM a b=a∨eM a b=b):=by unfold eM;split <;> omega
theorem aG8 {a b:Int} (h:a<b):eM a b=a:=if_pos h
theorem aGs {a b:Int} (h:¬a<b):eM a b=b:=if_neg h
theorem aH3 (a b:Int):(if b<a then b else a)=eM a b:=by unfold eM;split <;> split <;> omega
def iE (x : aF) (L : List Int) : Nat → List Int
  | 0=>L
  | q+1=>match x.blocks[q]? with | some b=>(iE x L q).set b.toNat (eM 8 (x.size - ((q * 8:Nat):Int))) | none=>iE x L q
def dK (xs : List aF) : Nat → List Int
  | 0=>List.replicate 20 0
  | k+1=>match xs[k]? with | some x=>iE x (dK xs k) x.blocks.length | none=>dK xs k
theorem aD3 {x:aF}{L:List Int}{q:Nat}{b:Int} (h:x.blocks[q]? =some b):(iE x L q).set b.toNat (eM 8 (x.size - ((q * 8:Nat):Int)))=iE x L (q+1):=by simp only [iE,h]
theorem aBc {xs:List aF}{k q:Nat}{x:aF} (h:xs[k]? =some x) (hq:x.blocks.length≤q) (hq2:q≤x.blocks.length):iE x (dK xs k) q=dK xs (k+1):=by
  have:q=x.blocks.length:=by omega
  subst this
  simp only [dK,h]
theorem eC {x : aF} {L : List Int} : ∀ q, (iE x L q).length = L.length
  | 0=>rfl
  | q+1=>by
    simp only [iE]
    split
    · rw [List.length_set];exact eC q
    · exact eC q
theorem cE {xs : List aF} : ∀ k, (dK xs k).length = 20
  | 0=>by simp [dK]
  | k+1=>by
    simp only [dK]
    split
    · rw [eC];exact cE k
    · exact cE k
theorem aDl {x:aF} (h:cL x=0):0≤x.size∧x.size≤32:=by
  unfold cL at h
  split at h
  · split at h
    · exact absurd h (by decide)
    · split at h
      · unfold gE at h
        split at h
        · rename_i h1;exact h1.2
        · exact absurd h (by decide)
      · omega
  · exact absurd h (by decide)
theorem zT {x:aF} (h:cL x=0):0≤x.kind∧x.kind≤2:=by
  unfold cL at h
  split at h
  · assumption
  · exact absurd h (by decide)
abbrev qF (f:DFs):List Int:=dK f.inodes f.inodes.length
def mF (f:DFs):Prop:=∀(j:Nat) (b:List UInt8),f.data[j]? =some b→(qF f)[j]? =some (b.length:Int)
noncomputable instance (f:DFs):Decidable (mF f):=Classical.propDecidable _
theorem aEc {f:DFs}{k:Nat}{b:List UInt8}{n:Int} (hb:f.data[k]? =some b) (hn:(qF f)[k]? =some n) (h:¬(b.length:Int)=n):¬mF f:=fun hd=>by
  have:=hd k b hb
  rw [hn] at this
  exact h (Option.some.inj this).symm
theorem tQ {f:DFs}{k:Nat} (hk:f.data.length≤k) (ha:∀(j:Nat) (b:List UInt8),j<k→f.data[j]? =some b→(qF f)[j]? =some (b.length:Int)):mF f:=fun j b hb=>ha j b (by have:=(List.getElem?_eq_some_iff.1 hb).1;omega) hb
theorem aHd {f:DFs}{k:Nat}{b:List UInt8}{n:Int} (ha:∀(j:Nat) (b:List UInt8),j<k→f.data[j]? =some b→(qF f)[j]? =some (b.length:Int)) (hb:f.data[k]? =some b) (hn:(qF f)[k]? =some n) (h:(b.length:Int)=n):∀(j:Nat) (b:List UInt8),j<k+1→f.data[j]? =some b→(qF f)[j]? =some (b.length:Int):=
  dY (q:=fun j (b:List UInt8)=>(qF f)[j]? =some (b.length:Int)) ha hb (by rw [hn,h])
structure kZ (f : DFs) (j : Nat) (x : aF) : Prop where
  file:x.kind=1→x.links=(fM f.inodes (j:Int):Int)
  root:x.kind=2→j=0→(fM f.inodes (j:Int):Int)=0
  dir:x.kind=2→0<j→(fM f.inodes (j:Int):Int)=1
  way:¬x.kind=0→(j:Int)∈lW f.inodes 0
def kE (f:DFs):Prop:=∀(j:Nat) (x:aF),f.inodes[j]? =some x→kZ f j x
noncomputable instance (f:DFs):Decidable (kE f):=Classical.propDecidable _
theorem fZ {f:DFs}{k:Nat} (hk:f.inodes.length≤k) (ha:∀j x,j<k→f.inodes[j]? =some x→kZ f j x):kE f:=fun j x hx=>ha j x (by have:=(List.getElem?_eq_some_iff.1 hx).1;omega) hx
noncomputable def tY (f:DFs):Int:=if kE f then 0 else 1
noncomputable def aDd (f:DFs):Int:=if mF f then 0 else 1
theorem kI {f:DFs} (h:¬kE f):tY f=1:=if_neg h
theorem kM {f:DFs} (h:kE f):tY f=0:=if_pos h
theorem aDu {f:DFs} (h:¬mF f):aDd f=1:=if_neg h
theorem zG {f:DFs} (h:mF f):aDd f=0:=if_pos h
noncomputable def eO (f:DFs):Int:=if bK f=0 then if kE f∧mF f then 0 else 1 else bK f
theorem mO {f:DFs} (h:¬bK f=0):eO f=bK f:=if_neg h
theorem fP {f:DFs} (h:bK f=0) (h2:¬kE f∨¬mF f):eO f=1:=by unfold eO;rw [if_pos h,if_neg (fun hh=>h2.elim (fun k=>k hh.1) (fun k=>k hh.2))]
theorem kR {f:DFs} (h:bK f=0) (h2:kE f) (h3:mF f):eO f=0:=by unfold eO;rw [if_pos h,if_pos ⟨h2,h3⟩]
theorem mG {f:DFs} (h:bK f=0) (h2:¬tY f=0):eO f=tY f:=by
  by_cases hl:kE f
  · exact absurd (kM hl) h2
  · rw [fP h (.inl hl),kI hl]
theorem mI {f:DFs} (h:bK f=0) (h2:tY f=0):eO f=aDd f:=by
  by_cases hl:kE f
  · by_cases hd : mF f
    · rw [kR h hl hd,zG hd]
    · rw [fP h (.inr hd),aDu hd]
  · rw [kI hl] at h2;exact absurd h2 (by decide)
theorem mR {f:DFs} (h:eO f=0):bK f=0:=by
  unfold eO at h
  split at h
  · assumption
  · contradiction
theorem aMz {f:DFs} (h:eO f=0):bK f=0∧kE f∧mF f:=by
  refine⟨mR h,?_⟩
  apply Classical.byContradiction
  intro hn
  by_cases hl:kE f
  · have:=fP (mR h) (.inr fun hd=>hn ⟨hl,hd⟩);omega
  · have:=fP (mR h) (.inl hl);omega
noncomputable def bS (f:DFs) (a:Int):Int:=if eO f=0 then if bY f.inodes.length a then if bC f.inodes a=2 then 9 else if bC f.inodes a=0 then 4 else 0 else 3 else eO f
theorem eI {f:DFs}{a:Int} (h:¬eO f=0):bS f a=eO f:=if_neg h
theorem eG {f:DFs}{a:Int} (h:eO f=0) (h2:¬bY f.inodes.length a):bS f a=3:=by unfold bS;rw [if_pos h,if_neg h2]
theorem eK {f:DFs}{a:Int} (h:eO f=0) (h2:bY f.inodes.length a) (h3:bC f.inodes a=2):bS f a=9:=by unfold bS;rw [if_pos h,if_pos h2,if_pos h3]
theorem eJ {f:DFs}{a:Int} (h:eO f=0) (h2:bY f.inodes.length a) (h3:¬bC f.inodes a=2) (h4:bC f.inodes a=0):bS f a=4:=by unfold bS;rw [if_pos h,if_pos h2,if_neg h3,if_pos h4]
theorem gF {f:DFs}{a:Int} (h:eO f=0) (h2:bY f.inodes.length a) (h3:¬bC f.inodes a=2) (h4:¬bC f.inodes a=0):bS f a=0:=by unfold bS;rw [if_pos h,if_pos h2,if_neg h3,if_neg h4]
theorem nI {f:DFs}{a:Int} (h:bS f a=0):eO f=0∧bY f.inodes.length a∧¬bC f.inodes a=2∧¬bC f.inodes a=0:=by
  unfold bS at h
  split at h
  · split at h
    · split at h
      · exact absurd h (by decide)
      · split at h
        · exact absurd h (by decide)
        · rename_i h1 h2 h3 h4;exact⟨h1,h2,h3,h4⟩
    · exact absurd h (by decide)
  · contradiction
def oT (data:List (List UInt8)) (b:Int):List UInt8:=data.getD b.toNat []
def hU (data:List (List UInt8)) (bs:List Int) (k:Nat):List UInt8:=((bs.take k).map (oT data)).flatten
def eE (xs:List aF) (a:Int):List Int:=match xs[a.toNat]? with | some x=>x.blocks | none=> []
theorem lO {xs:List aF}{a:Int}{j:Nat}{x:aF} (hx:xs[j]? =some x) (h:a=(j:Int)):eE xs a=x.blocks:=by
  subst h
  unfold eE
  rw [Int.toNat_natCast,hx]
def bU (f:DFs) (a:Int):List UInt8:=hU f.data (eE f.inodes a) (eE f.inodes a).length
theorem yW {data:List (List UInt8)}{bs:List Int}{k:Nat}{b:Int}{d:List UInt8} (hb:bs[k]? =some b) (hd:data[b.toNat]? =some d):hU data bs k++d=hU data bs (k+1):=by
  unfold hU
  rw [←kQ hb,List.map_append,List.flatten_append]
  simp [oT,hd]
theorem uN {data:List (List UInt8)}{bs:List Int}{k:Nat} (h:bs.length≤k):hU data bs k=hU data bs bs.length:=by
  unfold hU;rw [List.take_of_length_le h,List.take_length]
theorem qT {data:List (List UInt8)}{bs:List Int} (k:Nat) (h4:bs.length≤4) (h8:∀d,d∈data→d.length≤8):(hU data bs k).length≤32:=by
  unfold hU
  have h1:(bs.take k).length≤4:=by rw [List.length_take];omega
  have h2:∀l:List Int,((l.map (oT data)).flatten).length≤l.length * 8:=by
    intro l
    induction l with
    | nil=>simp
    | cons b l ih=>
      have:(oT data b).length≤8:=by
        unfold oT
        rw [List.getD_eq_getElem?_getD]
        cases hd:data[b.toNat]? with
        | none=>simp
        | some d=>simpa using h8 d (List.mem_of_getElem? hd)
      simp only [List.map_cons,List.flatten_cons,List.length_append,List.length_cons]
      omega
  have:=h2 (bs.take k)
  omega
theorem uF {f:DFs} (h:bK f=0):∀d,d∈f.data→d.length≤8:=fun d hd=>by
  have h1:=(qI h).2.1
  unfold xW at h1
  rw [List.any_eq_false] at h1
  have:=h1 d hd
  simp only [decide_eq_true_eq] at this
  omega
theorem kD {f:DFs} (h:bK f=0):f.data.length=20:=(sL (qI h).1).2.2.2
noncomputable def gQ (f:DFs) (a:Int):aCm:=if bS f a=0 then⟨0,bU f a⟩else⟨bS f a,[]⟩
theorem dM {f:DFs}{a:Int} (h:¬bS f a=0):gQ f a=⟨bS f a,[]⟩:=if_neg h
theorem gK {f:DFs}{a:Int} (h:bS f a=0):gQ f a=⟨0,bU f a⟩:=if_pos h
end Go.Proofs.YtmejbfmhaoilmaaGreat
/- What is proved: arrays of whole numbers in memory and as values; the lesser of two numbers. No condition. -/
namespace Go.Proofs.YtmejbfmhaoilmaaGreat
open Go Go.RowKit
set_option linter.unusedVariables false
set_option linter.unusedSimpArgs false
section
variable {P:Program}{T:eX}{Wd:World→Prop}{o:Oper}{x y:Operand}{t e:TypeId}
theorem zQ {sz n j:Nat}{ad:Addr}{k:IntKind}{i:Int} (ho:o.op= .indexAddr t x y) (ht:P.underlying t=some (.array n e)) (he:(P.info? e).map (·.size)=some sz) (hx:Val T x (.pointer (some ad))) (hy:Val T y (.int k i)) (hi:i=j) (hj:j<n):
    eT P o T Wd (.pointer (some (ad.add (j * sz)))):=fun a w ha _=>by
  subst hi
  obtain⟨i0,h1,h2⟩:=Option.map_eq_some_iff.1 he
  simp only [execOp,ho,hx a ha,hy a ha]
  simp [Instr.indexAt,asIntOf,run_underlying ht,Instr.sureAddr,sizeOf,typeInfo,h1,h2,hj]
theorem aCq {n j:Nat}{L:List Int}{k:IntKind}{i z:Int} (ho:o.op= .index t x y) (ht:P.underlying t=some (.array n e)) (he:(P.info? e).map (·.size)=some 1) (hg:eN P e false) (hx:Val T x (.agg (L.map (Value.int .i64)).toArray)) (hy:Val T y (.int k i)) (hi:i=j) (hj:L[j]? =some z) (hl:L.length=n):
    eT P o T Wd (.int .i64 z):=fun a w ha _=>by
  subst hi
  obtain⟨i0,h1,h2⟩:=Option.map_eq_some_iff.1 he
  obtain⟨d,hd,hd2⟩:=hg.ex
  have hag:=nN hd w
  rw [hd2] at hag
  have hlt:j<n:=by rw [←hl];exact(List.getElem?_eq_some_iff.1 hj).1
  have hp:(part e (L.map (Value.int .i64)).toArray (j * 1)).run P w= .ok (.int .i64 z) w:=by
    unfold part
    rw [Sem.run_bind,hag]
    simp [hj]
  simp only [execOp,ho,hx a ha,hy a ha]
  simp [Instr.index,asIntOf,run_underlying ht,sizeOf,typeInfo,h1,h2,hlt]
  rw [Nat.mul_one] at hp
  simp [hp]
theorem aI5 {ts:Array TypeId}{a b:Int}{k:IntKind} (ho:o.op= .call {callee:= .builtin .min,args:= #[x,y],argTypes:=ts}) (hx:Val T x (.int k a)) (hy:Val T y (.int k b)):eT P o T Wd (.int k (eM a b)):=fun ac w ha _=>by
  simp only [execOp,ho]
  simp [resolve,hx ac ha,hy ac ha,invoke,builtin,Builtin.min_,Builtin.min2,aH3]
end
theorem zZ {v : Value} : ∀ {l : List Value} {n : Nat}, n < l.length → mP l n v (l.set n v)
  | _ :: _,0,_=> .z
  | _ :: _,n+1,h=> .s (zZ (by simpa using h))
  | [],_,h=>by simp at h
theorem aJs {v:Value}{l:List Value}{n:Nat} (h:n<l.length):sU l n [v] (l.set n v):= .c (zZ h) .n
theorem aDr : ∀ {pre cs fl : List Value}, fl.length = cs.length → sU (pre ++ fl) pre.length cs (pre ++ cs)
  | pre,[],[],_=>by simpa using sU.n
  | pre,c :: cs,f :: fl,h=>by
    have h1:mP (pre++f :: fl) pre.length c ((pre++ [c])++fl):=by
      have:=zZ (v:=c) (l:=pre++f :: fl) (n:=pre.length) (by simp)
      simpa [List.set_append] using this
    have h2:=aDr (pre:=pre++ [c]) (cs:=cs) (fl:=fl) (by simpa using h)
    refine .c h1 ?_
    simpa using h2
  | _,[],_ :: _,h=>by simp at h
  | _,_ :: _,[],h=>by simp at h
theorem aE2 {cs fl:List Value} (h:fl.length=cs.length):sU fl 0 cs cs:=by simpa using aDr (pre:= []) h
theorem map_set (L:List Int) (j:Nat) (z:Int):(L.map (Value.int .i64)).set j (.int .i64 z)=(L.set j z).map (Value.int .i64):=by rw [List.map_set]
theorem aH2 {L:List Int}{j:Nat}{z:Int} (h:j<L.length):sU (L.map (Value.int .i64)) (j * 1) [.int .i64 z] ((L.set j z).map (Value.int .i64)):=by
  rw [Nat.mul_one,←map_set]
  exact aJs (by rwa [List.length_map])
theorem aFy (L:List Int):∀u,u∈L.map (Value.int .i64)→u.oneCell'=true:=fun u hu=>by
  obtain⟨z,_,rfl⟩:=List.mem_map.1 hu
  rfl
end Go.Proofs.YtmejbfmhaoilmaaGreat
/- What is proved: one element of a slice of one's own, taken out and put back; a part of a slice of one's own, read; a row's cells as a slice of structs. No condition. -/
namespace Go.Proofs.YtmejbfmhaoilmaaGreat
open Go Go.RowKit
set_option linter.unusedVariables false
set_option linter.unusedSimpArgs false
theorem zW {α : Type} {K : Kd α} : ∀ {xs : List α} {css : List (List Value)} {j : Nat} {x : α} {c : List Value}, xs[j]? = some x → css[j]? = some c → jW K xs css = jW K (xs.take j) (css.take j) ++ aG K x c :: jW K (xs.drop (j + 1)) (css.drop (j + 1))
  | [],_,_,_,_,hx,_=>by simp at hx
  | _,[],_,_,_,_,hc=>by simp at hc
  | y :: xs,d :: css,0,x,c,hx,hc=>by
    simp at hx hc
    subst hx;subst hc
    rfl
  | y :: xs,d :: css,j+1,x,c,hx,hc=>by
    have ih:=zW (K:=K) (xs:=xs) (css:=css) (j:=j) (x:=x) (c:=c) (by simpa using hx) (by simpa using hc)
    rw [aEp,ih]
    rfl
theorem eD {α:Type}{K:Kd α}{xs:List α}{css:List (List Value)}{j:Nat}{x:α}{c:List Value} (hx:xs[j]? =some x) (hc:css[j]? =some c) (w:World) (S:Bs) (h:(mL K xs css).p w S):cJ [aG K x c,mL K (xs.take j) (css.take j),mL K (xs.drop (j+1)) (css.drop (j+1))] w S:=by
  have h1:cJ (jW K xs css) w S:=h
  rw [zW hx hc] at h1
  obtain⟨A,B,hA,⟨B1,B2,h2,h3,i1,i2,d1⟩,i,k,d⟩:=h1.split
  exact⟨B1,fun b=>A b∨B2 b,h2,⟨A,B2,hA,cJ.one (c:=mL K _ _) h3,fun _ h=> .inl h,fun _ h=> .inr h,fun b ha hb=>d b ha (i2 b hb)⟩,fun b hb=>k b (i1 b hb),fun b hb=>hb.elim (i b) (fun h=>k b (i2 b h)),fun b hb hb2=>hb2.elim (fun h=>d b h (i1 b hb)) (d1 b hb)⟩
theorem aA9 {α:Type}{K:Kd α}{xs:List α}{css:List (List Value)}{j:Nat}{x:α}{c:List Value} (hx:xs[j]? =some x) (hc:css[j]? =some c) (w:World) (S:Bs) (h:cJ [aG K x c,mL K (xs.take j) (css.take j),mL K (xs.drop (j+1)) (css.drop (j+1))] w S):(mL K xs css).p w S:=by
  obtain⟨B1,C,h2,⟨A,B2,hA,h3,i1,i2,d1⟩,i,k,d⟩:=h
  show cJ (jW K xs css) w S
  rw [zW hx hc]
  have h3':cJ (jW K (xs.drop (j+1)) (css.drop (j+1))) w B2:=cJ.head (c:=mL K _ _) h3
  exact cJ.app hA ⟨B1,B2,h2,h3',fun _ h=> .inl h,fun _ h=> .inr h,fun b hb hb2=>d b hb (i2 b hb2)⟩ (S2:=fun b=>B1 b∨B2 b) (fun b hb=>k b (i1 b hb)) (fun b hb=>hb.elim (i b) (fun h=>k b (i2 b h))) (fun b ha hb=>hb.elim (fun h=>d b h (i1 b ha)) (d1 b ha))
theorem eU {α : Type} {K : Kd α} {e by_ : Nat} {xs : List α} {css css' : List (List Value)} {j : Nat} {x : α} {c : List Value} {v : Value} (hl : css.length = xs.length) (hj : j < xs.length) (he : css' = css.set j c) (w : World) (S : Bs)
    (h:cJ [aG (bQ e by_ (mC K.sz K.pos)) css' [v],aG K x c,mL K (xs.take j) (css.take j),mL K (xs.drop (j+1)) (css.drop (j+1))] w S):(aG (bQ e by_ K) (xs.set j x) [v]).p w S:=by
  subst he
  obtain⟨A,B,hA,hB,i,k,d⟩:=h
  refine aC8 (xs:=xs.set j x) (css:=css.set j c) (by rw [List.length_set,List.length_set];exact hl) w S ⟨A,B,hA,cJ.one (c:=mL K _ _) (aA9 (j:=j) (x:=x) (c:=c) (by rw [List.getElem?_set_self hj]) (by rw [List.getElem?_set_self (by omega)]) w B ?_),i,k,d⟩
  rw [List.take_set_of_le (Nat.le_refl j),List.take_set_of_le (Nat.le_refl j),List.drop_set_of_lt (Nat.lt_succ_self j),List.drop_set_of_lt (Nat.lt_succ_self j)]
  exact hB
theorem eH {α : Type} {K : Kd α} {e by_ : Nat} {xs : List α} {css : List (List Value)} {j : Nat} {x : α} {c : List Value} {v : Value} (hl : css.length = xs.length) (hx : xs[j]? = some x) (hc : css[j]? = some c) (w : World) (S : Bs)
    (h:cJ [aG (bQ e by_ (mC K.sz K.pos)) css [v],aG K x c,mL K (xs.take j) (css.take j),mL K (xs.drop (j+1)) (css.drop (j+1))] w S):(aG (bQ e by_ K) xs [v]).p w S:=by
  obtain⟨A,B,hA,hB,i,k,d⟩:=h
  exact aC8 hl w S ⟨A,B,hA,cJ.one (c:=mL K _ _) (aA9 hx hc w B hB),i,k,d⟩
theorem aGq {α:Type}{K:Kd α}{e by_ g sz:Nat}{x:α}{cs:List Value} (hsz:K.sz=sz) (hl:cs.length=sz) (hb:by_≤140737488355328) (w:World) (S:Bs) (h:cJ [bZ g e sz 1 cs,aG K x cs] w S):(aG (bQ e by_ K) [x] [.slice (some ⟨g,0,none⟩) 1 1]).p w S:=by
  subst hsz
  obtain⟨A,B,hA,hB,i,k,d⟩:=h
  exact .inr ⟨g,1,[cs],rfl,Nat.le_refl _,by omega,by simpa using hb,rfl,A,B,by simpa using hA,⟨B,fun _=>False,cJ.head (c:=aG K x cs) hB,trivial,fun _ h=>h,fun _ h=>h.elim,fun _ _ h=>h⟩,i,k,d⟩
theorem Tr.ptrpre {w0:World}{S0:Bs}{l':List Asn}{α:Type}{K:Kd α}{w:World}{S1:Bs}{lr:List Asn}{g e sz c:Nat}{ecs cs:List Value}{x:α} (tr:Tr w0 S0 w S1 lr) (tk:fK lr (bZ g e sz c ecs) l') (hr:K.ro w (FF w S1) x cs) (hs:∀(i:Nat) (u:Value),cs[i]? =some u→ecs[i]? =some u):gJ K w (FF w S1) ⟨g,0,none⟩ x:=by
  obtain⟨S2,hst,hsub⟩:=tr.all
  have h:=(hst.take tk).head
  refine⟨cs,hsub _ h.1,hr,fun i u hu=> ?_⟩
  rw [jN]
  exact qK h (hs i u hu)
theorem Tr.elw {w0:World}{S0:Bs}{α:Type}{K:Kd α}{w:World}{S1:Bs}{lr:List Asn}{B:Addr}{ecs:List Value}{x:α} (tr:Tr w0 S0 w S1 lr) (hF:FF w0 S0 B.block) (hc:∀(i:Nat) (u:Value),ecs[i]? =some u→w0.cell? (B.add i)=some u) (hr:K.ro w (FF w S1) x ecs):gJ K w (FF w S1) B x:=
  ⟨ecs,(tr.wide _ hF).1,hr,fun i u hu=>(rH (by rw [kS];exact(tr.wide _ hF).2)).trans (hc i u hu)⟩
section
variable {P:Program}{T:eX}{Wd:World→Prop}{o:Oper}
theorem nK {x:Operand}{s f:Nat}{v u:Value} (ho:o.op= .field s x f) (hx:Val T x v) (hs:∀w,(Instr.field s v f).run P w= .ok u w):eT P o T Wd u:=fun a w ha _=>by
  simp only [execOp,ho,hx a ha];simp [hs w]
end
end Go.Proofs.YtmejbfmhaoilmaaGreat
/- What is proved: new trees, reading files, dropping them, in plain Lean. No condition. -/
namespace Go.Proofs.YtmejbfmhaoilmaaGreat
open Go Go.RowKit
set_option linter.unusedVariables false
set_option linter.unusedSimpArgs false
theorem kO {xs:List aF} (h:bJ xs=0) (a:Int):∀b,b∈eE xs a→0≤b∧b≤19:=by
  unfold eE
  cases hx:xs[a.toNat]? with
  | none=>intro b hb;cases hb
  | some x=>exact(jP (dI h x (List.mem_of_getElem? hx))).2
theorem aEt {xs:List aF} (h:bJ xs=0) (a:Int):(eE xs a).length≤4:=by
  unfold eE
  cases hx:xs[a.toNat]? with
  | none=>simp
  | some x=>exact(jP (dI h x (List.mem_of_getElem? hx))).1
theorem nL {f:DFs} (h:bK f=0) (a:Int):(bU f a).length≤32:=qT _ (aEt (kC h) a) (uF h)
theorem uH (a b:Int):eM a b=eM b a:=by have:=jC a b;have:=jC b a;omega
def yQ (L:List UInt8) (i n:Int):List UInt8:=iQ L (eM i L.length).toNat (eM L.length (eM i L.length+n)).toNat
noncomputable def pY (f:DFs) (a i n:Int):aCm:=if bS f a=0 then if(0≤i∧i≤1000)∧(0≤n∧n≤100)then⟨0,yQ (bU f a) i n⟩else⟨3,[]⟩else⟨bS f a,[]⟩
theorem aHs {f:DFs}{a i n:Int} (h:¬bS f a=0):pY f a i n=⟨bS f a,[]⟩:=if_neg h
theorem sZ {f:DFs}{a i n:Int} (h:bS f a=0) (h2:¬((0≤i∧i≤1000)∧(0≤n∧n≤100))):pY f a i n=⟨3,[]⟩:=by unfold pY;rw [if_pos h,if_neg h2]
theorem tM {f:DFs}{a i n:Int} (h:bS f a=0) (h2:(0≤i∧i≤1000)∧(0≤n∧n≤100)):pY f a i n=⟨0,yQ (bU f a) i n⟩:=by unfold pY;rw [if_pos h,if_pos h2]
theorem rD {f:DFs}{a:Int}:(gQ f a).code=bS f a:=by
  unfold gQ;split
  · rename_i h;exact h.symm
  · rfl
theorem aAd {f:DFs}{a:Int} (h:(gQ f a).code=0):bS f a=0:=by rwa [rD] at h
theorem zP {f:DFs}{a:Int} (h:¬(gQ f a).code=0):¬bS f a=0:=by rwa [rD] at h
theorem zB {f:DFs}{a:Int} (h:bS f a=0):(gQ f a).bytes=bU f a:=by rw [gK h]
theorem tL {f:DFs}{a i n:Int} (h:¬bS f a=0):pY f a i n=gQ f a:=by rw [aHs h,dM h]
def lQ (data : List (List UInt8)) (bs : List Int) : Nat → List (List UInt8)
  | 0=>data
  | k+1=>match bs[k]? with | some b=>(lQ data bs k).set b.toNat [] | none=>lQ data bs k
theorem aAh {data:List (List UInt8)}{bs:List Int}{k:Nat}{b:Int} (h:bs[k]? =some b):(lQ data bs k).set b.toNat []=lQ data bs (k+1):=by simp only [lQ,h]
theorem iH {data : List (List UInt8)} {bs : List Int} : ∀ k, (lQ data bs k).length = data.length
  | 0=>rfl
  | k+1=>by
    simp only [lQ]
    split
    · rw [List.length_set];exact iH k
    · exact iH k
abbrev fW (f:DFs) (a:Int):List (List UInt8):=lQ f.data (eE f.inodes a) (eE f.inodes a).length
abbrev oN (f:DFs) (a:Int):DFs:=⟨f.inodes.set a.toNat ⟨0,0,0,[],[]⟩,fW f a⟩
noncomputable def wX (f:DFs) (a:Int):RFs:=if bS f a=0 then⟨0,oN f a⟩else⟨bS f a,⟨[],[]⟩⟩
theorem aD9 {f:DFs}{a:Int} (h:¬bS f a=0):wX f a=⟨bS f a,⟨[],[]⟩⟩:=if_neg h
theorem aAi {f:DFs}{a:Int} (h:bS f a=0):wX f a=⟨0,oN f a⟩:=if_pos h
end Go.Proofs.YtmejbfmhaoilmaaGreat
/- What is proved: names taken out of a directory, in plain Lean. No condition. -/
namespace Go.Proofs.YtmejbfmhaoilmaaGreat
open Go Go.RowKit
set_option linter.unusedVariables false
set_option linter.unusedSimpArgs false
abbrev aH1 {α:Type} (p:α→Bool):α→Bool:=fun e=> !p e
theorem mB {α:Type}{p:α→Bool}{xs:List α} (h:¬fC p xs= -1):∃i:Nat,fC p xs=(i:Int)∧i<xs.length∧(xs.take (i+1)).filter (aH1 p)=xs.take i:=by
  unfold fC at h ⊢
  cases hf:xs.findIdx? p with
  | none=>rw [hf] at h;exact absurd rfl h
  | some i=>
    obtain⟨hi,hp,hn⟩:=List.findIdx?_eq_some_iff_getElem.1 hf
    refine⟨i,rfl,hi,?_⟩
    rw [←kQ (List.getElem?_eq_getElem hi),List.filter_append]
    have h1: [xs[i]].filter (aH1 p)= []:=by simp [aH1,hp]
    rw [h1,List.append_nil,List.filter_eq_self]
    intro x hx
    obtain⟨j,hj,rfl⟩:=List.mem_take_iff_getElem.1 hx
    have:=hn j (by omega)
    simpa [aH1] using this
def gU (xs:List aF) (a:Int) (es:List bT):List aF:=match xs[a.toNat]? with | some y=>xs.set a.toNat ⟨y.kind,y.links,y.size,y.blocks,es⟩ | none=>xs
def fX (xs:List aF) (a:Int) (n:Int):List aF:=match xs[a.toNat]? with | some y=>xs.set a.toNat ⟨y.kind,n,y.size,y.blocks,y.ents⟩ | none=>xs
def dJ (xs:List aF) (a:Int):Int:=match xs[a.toNat]? with | some x=>x.links | none=>0
theorem wO {xs:List aF}{a:Int}{es:List bT}{j:Nat}{y:aF} (h:xs[j]? =some y) (hj:a=(j:Int)):xs.set j ⟨y.kind,y.links,y.size,y.blocks,es⟩=gU xs a es:=by
  subst hj;unfold gU;rw [Int.toNat_natCast,h]
theorem tR {xs:List aF}{a n:Int}{j:Nat}{y:aF} (h:xs[j]? =some y) (hj:a=(j:Int)):xs.set j ⟨y.kind,n,y.size,y.blocks,y.ents⟩=fX xs a n:=by
  subst hj;unfold fX;rw [Int.toNat_natCast,h]
theorem dZ {xs:List aF}{a:Int}{j:Nat}{x:aF} (hx:xs[j]? =some x) (h:a=(j:Int)):dJ xs a=x.links:=by
  subst h;unfold dJ;rw [Int.toNat_natCast,hx]
theorem dF {xs:List aF}{a:Int}{es:List bT}:(gU xs a es).length=xs.length:=by
  unfold gU;split <;> simp
theorem dV {xs:List aF}{a n:Int}:(fX xs a n).length=xs.length:=by
  unfold fX;split <;> simp
theorem pA {xs:List aF}{a:Int}{es:List bT} (j:Nat):∀y,(gU xs a es)[j]? =some y→∃x,xs[j]? =some x∧y=⟨x.kind,x.links,x.size,x.blocks,if j=a.toNat then es else x.ents⟩:=fun y hy=>by
  unfold gU at hy
  cases h:xs[a.toNat]? with
  | none=>
    rw [h] at hy
    refine⟨y,hy,?_⟩
    rw [if_neg (fun e=>by subst e;rw [h] at hy;cases hy)]
  | some x=>
    rw [h] at hy
    simp only at hy
    rw [List.getElem?_set] at hy
    split at hy
    · rename_i e
      split at hy
      · obtain rfl := Option.some.inj hy
        refine⟨x,by rw [←e];exact h,by rw [if_pos e.symm]⟩
      · cases hy
    · rename_i e
      exact⟨y,hy,by rw [if_neg (fun e2=>e e2.symm)]⟩
theorem yR {xs:List aF}{a n:Int} (j:Nat):∀y,(fX xs a n)[j]? =some y→∃x,xs[j]? =some x∧y=⟨x.kind,if j=a.toNat then n else x.links,x.size,x.blocks,x.ents⟩:=fun y hy=>by
  unfold fX at hy
  cases h:xs[a.toNat]? with
  | none=>
    rw [h] at hy
    refine⟨y,hy,?_⟩
    rw [if_neg (fun e=>by subst e;rw [h] at hy;cases hy)]
  | some x=>
    rw [h] at hy
    simp only at hy
    rw [List.getElem?_set] at hy
    split at hy
    · rename_i e
      split at hy
      · obtain rfl := Option.some.inj hy
        refine⟨x,by rw [←e];exact h,by rw [if_pos e.symm]⟩
      · cases hy
    · rename_i e
      exact⟨y,hy,by rw [if_neg (fun e2=>e e2.symm)]⟩
theorem wM {xs:List aF}{a k:Int}{es:List bT}:bC (gU xs a es) k=bC xs k:=by
  unfold bC
  cases h:(gU xs a es)[k.toNat]? with
  | none=>
    rw [List.getElem?_eq_none_iff,dF] at h
    rw [List.getElem?_eq_none h]
  | some y=>
    obtain⟨x,hx,rfl⟩:=pA _ y h
    rw [hx]
theorem aBf {xs:List aF}{a k:Int}{es:List bT}:dJ (gU xs a es) k=dJ xs k:=by
  unfold dJ
  cases h:(gU xs a es)[k.toNat]? with
  | none=>
    rw [List.getElem?_eq_none_iff,dF] at h
    rw [List.getElem?_eq_none h]
  | some y=>
    obtain⟨x,hx,rfl⟩:=pA _ y h
    rw [hx]
theorem sY {xs:List aF}{a k n:Int}:eE (fX xs a n) k=eE xs k:=by
  unfold eE
  cases h:(fX xs a n)[k.toNat]? with
  | none=>
    rw [List.getElem?_eq_none_iff,dV] at h
    rw [List.getElem?_eq_none h]
  | some y=>
    obtain⟨x,hx,rfl⟩:=yR _ y h
    rw [hx]
theorem qX {α : Type} (f : α → Nat) : ∀ {xs : List α} {i : Nat} {x y : α}, xs[i]? = some x → gS f (xs.set i y) + f x = gS f xs + f y
  | [],_,_,_,h=>by simp at h
  | z :: xs,0,x,y,h=>by simp at h;subst h;simp only [List.set_cons_zero,gS];omega
  | z :: xs,i+1,x,y,h=>by
    have:=qX f (xs:=xs) (i:=i) (x:=x) (y:=y) (by simpa using h)
    simp only [List.set_cons_succ,gS];omega
theorem aBk {xs:List aF}{a k n:Int}:fM (fX xs a n) k=fM xs k:=by
  unfold fX
  split
  · rename_i y hy
    have:=qX (gI k) (y:=⟨y.kind,n,y.size,y.blocks,y.ents⟩) hy
    unfold fM
    have e:gI k ⟨y.kind,n,y.size,y.blocks,y.ents⟩=gI k y:=rfl
    omega
  · rfl
def eV (es:List bT) (i:Nat):Int:=match es[i]? with | some e=>e.ino | none=> -1
theorem nA {es:List bT}{i:Nat}{e:bT} (h:es[i]? =some e):eV es i=e.ino:=by unfold eV;rw [h]
abbrev dH (f:DFs) (a:Int) (es:List bT):DFs:=⟨gU f.inodes a es,f.data⟩
def iG (f:DFs) (k:Int):DFs:=if bC f.inodes k=1 then if 1<dJ f.inodes k then⟨fX f.inodes k (dJ f.inodes k - 1),f.data⟩else if fM f.inodes k=0 then oN f k else f else f
theorem sT {f:DFs}{k:Int} (h:¬bC f.inodes k=1):iG f k=f:=if_neg h
theorem tF {f:DFs}{k:Int} (h:bC f.inodes k=1) (h2:1<dJ f.inodes k):iG f k=⟨fX f.inodes k (dJ f.inodes k - 1),f.data⟩:=by unfold iG;rw [if_pos h,if_pos h2]
theorem nH {f:DFs}{k:Int} (h:bC f.inodes k=1) (h2:¬1<dJ f.inodes k) (h3:fM f.inodes k=0):iG f k=oN f k:=by unfold iG;rw [if_pos h,if_neg h2,if_pos h3]
theorem tG {f:DFs}{k:Int} (h:bC f.inodes k=1) (h2:¬1<dJ f.inodes k) (h3:¬fM f.inodes k=0):iG f k=f:=by unfold iG;rw [if_pos h,if_neg h2,if_neg h3]
theorem oJ {f:DFs}{k n:Int}:oN ⟨fX f.inodes k n,f.data⟩ k=oN f k:=by
  have h:(fX f.inodes k n).set k.toNat ⟨0,0,0,[],[]⟩=f.inodes.set k.toNat ⟨0,0,0,[],[]⟩:=by
    unfold fX
    split
    · rw [List.set_set]
    · rfl
  simp only [oN,fW,h,sY]
theorem aCw {xs:List aF}{k:Int}:fX xs k (dJ xs k)=xs:=by
  unfold fX dJ
  cases h:xs[k.toNat]? with
  | none=>rfl
  | some y=>
    obtain⟨hk,rfl⟩:=List.getElem?_eq_some_iff.1 h
    exact List.set_getElem_self hk
theorem aBd {xs:List aF}{k m n:Int}:fX (fX xs k m) k n=fX xs k n:=by
  unfold fX
  cases h:xs[k.toNat]? with
  | none=>simp only [h]
  | some y=>
    have hk:=(List.getElem?_eq_some_iff.1 h).1
    simp only [List.getElem?_set_self hk,List.set_set]
theorem tJ {es:List bT}{s:ByteArray}{ix:Nat} (h:fC (dG s) es=(ix:Int)):jE es s=eV es ix:=by
  have hr:=gM (dG s) es
  obtain⟨e,he⟩:=aJ (xs:=es) (j:=ix) (by omega)
  rw [nA he]
  exact sW (by omega) (by rw [h,Int.toNat_natCast];exact he)
theorem aBm {es:List bT}{s:ByteArray} (h:¬jE es s<0):∃ix:Nat,fC (dG s) es=(ix:Int):=by
  by_cases h2:fC (dG s) es<0
  · rw [sA h2] at h;exact absurd (by decide) h
  · exact⟨(fC (dG s) es).toNat,by omega⟩
structure vH (f : DFs) (k : Int) : Prop where
  p:bY f.inodes.length k
  d:f.data.length=20
  b:∀b,b∈eE f.inodes k→0≤b∧b≤19
  l:fM f.inodes k≤60
  k:bC f.inodes k=1→1≤dJ f.inodes k∧dJ f.inodes k≤60
theorem aE8 {f:DFs} (ht:bK f=0) {a:Int}{i:Nat}{e:bT} (h:(aH f.inodes a)[i]? =some e):bY f.inodes.length e.ino:=by
  unfold aH at h
  cases hx:f.inodes[a.toNat]? with
  | none=>rw [hx] at h;simp at h
  | some x=>
    rw [hx] at h
    simp only at h
    have h1:=zC (uJ ht _ x hx i e h)
    have h2:=pT (dI (kC ht) x (List.mem_of_getElem? hx)) i e h
    exact⟨h2.2.1,by omega⟩
theorem yD {f:DFs} (ht:bK f=0) {a:Int}{i:Nat} (h:i<(aH f.inodes a).length):bY f.inodes.length (eV (aH f.inodes a) i):=by
  obtain⟨e,he⟩:=aJ h
  rw [nA he]
  exact aE8 ht he
theorem xL {f:DFs} (ht:bK f=0) {a:Int}{s:ByteArray} (h:¬jE (aH f.inodes a) s<0):bY f.inodes.length (jE (aH f.inodes a) s):=by
  obtain⟨ix,hi⟩:=aBm h
  have hr:=gM (dG s) (aH f.inodes a)
  rw [tJ hi]
  exact yD ht (by omega)
theorem aE7 {f:DFs}{k n:Int} (h:vH f k):bY (fX f.inodes k n).length k∧∀b,b∈eE (fX f.inodes k n) k→0≤b∧b≤19:=⟨by rw [dV];exact h.p,by rw [sY];exact h.b⟩
end Go.Proofs.YtmejbfmhaoilmaaGreat
/- What is proved: the bytes of a file, set anew, in plain Lean. No condition. -/
namespace Go.Proofs.YtmejbfmhaoilmaaGreat
open Go Go.RowKit
set_option linter.unusedVariables false
set_option linter.unusedSimpArgs false
def mH (L:List UInt8) (k:Nat):List UInt8:=iQ L (k * 8) (min ((k+1) * 8) L.length)
def oC (data : List (List UInt8)) (bs : List Int) (L : List UInt8) : Nat → List (List UInt8)
  | 0=>data
  | k+1=>match bs[k]? with | some b=>(oC data bs L k).set b.toNat (mH L k) | none=>oC data bs L k
theorem uG {data:List (List UInt8)}{bs:List Int}{L:List UInt8}{k:Nat}{b:Int} (h:bs[k]? =some b):(oC data bs L k).set b.toNat (mH L k)=oC data bs L (k+1):=by simp only [oC,h]
theorem nV {data : List (List UInt8)} {bs : List Int} {L : List UInt8} : ∀ k, (oC data bs L k).length = data.length
  | 0=>rfl
  | k+1=>by
    simp only [oC]
    split
    · rw [List.length_set];exact nV k
    · exact nV k
def pG (xs:List aF) (a:Int) (n:Int) (ws:List Int):List aF:=match xs[a.toNat]? with | some y=>xs.set a.toNat ⟨y.kind,y.links,n,ws,y.ents⟩ | none=>xs
theorem aBi {xs:List aF}{a n:Int}{ws:List Int}{j:Nat}{y:aF} (h:xs[j]? =some y) (hj:a=(j:Int)):xs.set j ⟨y.kind,y.links,n,ws,y.ents⟩=pG xs a n ws:=by
  subst hj;unfold pG;rw [Int.toNat_natCast,h]
abbrev kY (f:DFs) (a:Int) (L:List UInt8) (ws:List Int):DFs:=⟨pG f.inodes a L.length ws,oC (fW f a) ws L ws.length⟩
abbrev dB (f:DFs) (L:List UInt8) (busy:List Int):jI:=hJ f.inodes busy (((L.length:Int)+7) / 8)
def vA (f:DFs) (a:Int) (L:List UInt8) (busy:List Int):DFs:=if(dB f L busy).code=0 then kY f a L (dB f L busy).list else f
theorem aHe {f:DFs}{a:Int}{L:List UInt8}{busy:List Int} (h:¬(dB f L busy).code=0):vA f a L busy=f:=if_neg h
theorem aCi {f:DFs}{a:Int}{L:List UInt8}{busy:List Int} (h:(dB f L busy).code=0):vA f a L busy=kY f a L (dB f L busy).list:=if_pos h
theorem vD {xs:List aF}{busy:List Int}{n:Int} (h:(hJ xs busy n).code=0):(∀b,b∈(hJ xs busy n).list→0≤b∧b≤19)∧((hJ xs busy n).list.length:Int)=n:=by
  unfold hJ at h ⊢
  split
  · rename_i h1
    rw [if_pos h1] at h
    split
    · rename_i h2;rw [if_pos h2] at h;exact absurd h (by decide)
    · rename_i h2
      refine⟨fun b hb=> ?_,by simp only [List.length_take];omega⟩
      have:=(pV.1 (List.mem_of_mem_take hb)).1
      omega
  · rename_i h1;rw [if_neg h1] at h;exact absurd h (by decide)
noncomputable abbrev gO (f:DFs) (a:Int) (busy:List Int):Int:=if bS f a=0 then gN busy else bS f a
theorem aDz {f:DFs}{a:Int}{busy:List Int} (h:¬bS f a=0):gO f a busy=bS f a:=if_neg h
theorem aDp {f:DFs}{a:Int}{busy:List Int} (h:bS f a=0):gO f a busy=gN busy:=if_pos h
theorem wOk {f:DFs}{a:Int}{busy:List Int} (h:gO f a busy=0):bS f a=0∧gN busy=0:=by
  unfold gO at h
  split at h
  · rename_i h1;exact⟨h1,h⟩
  · contradiction
def pN (f:DFs) (a:Int) (L:List UInt8) (busy:List Int):RFs:=if(L.length:Int)≤32 then if(dB f L busy).code=0 then⟨0,kY f a L (dB f L busy).list⟩else⟨(dB f L busy).code,⟨[],[]⟩⟩else⟨2,⟨[],[]⟩⟩
theorem qZ {f:DFs}{a:Int}{L:List UInt8}{busy:List Int} (h:¬(L.length:Int)≤32):pN f a L busy=⟨2,⟨[],[]⟩⟩:=if_neg h
theorem tT {f:DFs}{a:Int}{L:List UInt8}{busy:List Int} (h:(L.length:Int)≤32) (h2:¬(dB f L busy).code=0):pN f a L busy=⟨(dB f L busy).code,⟨[],[]⟩⟩:=by unfold pN;rw [if_pos h,if_neg h2]
theorem uA {f:DFs}{a:Int}{L:List UInt8}{busy:List Int} (h:(L.length:Int)≤32) (h2:(dB f L busy).code=0):pN f a L busy=⟨0,kY f a L (dB f L busy).list⟩:=by unfold pN;rw [if_pos h,if_pos h2]
def fsR (f:DFs) (c:Int):RFs:=if c=0 then⟨0,f⟩else⟨c,⟨[],[]⟩⟩
theorem aGy {f:DFs}{c:Int} (h:c=0):fsR f c=⟨0,f⟩:=if_pos h
theorem aD4 {f:DFs}{c:Int} (h:¬c=0):fsR f c=⟨c,⟨[],[]⟩⟩:=if_neg h
theorem yZ {f:DFs}{a:Int}{L:List UInt8}{busy:List Int} (h:(L.length:Int)≤32):pN f a L busy=fsR (vA f a L busy) (dB f L busy).code:=by
  by_cases h2:(dB f L busy).code=0
  · rw [uA h h2,aCi h2,aGy h2]
  · rw [tT h h2,aD4 h2]
noncomputable def zU (f:DFs) (a:Int) (L:List UInt8) (busy:List Int):RFs:=if gO f a busy=0 then pN f a L busy else⟨gO f a busy,⟨[],[]⟩⟩
theorem aCc {f:DFs}{a:Int}{L:List UInt8}{busy:List Int} (h:¬gO f a busy=0):zU f a L busy=⟨gO f a busy,⟨[],[]⟩⟩:=if_neg h
theorem oU {f:DFs}{a:Int}{L:List UInt8}{busy:List Int} (h:gO f a busy=0):zU f a L busy=pN f a L busy:=if_pos h
def lC (L:List UInt8) (n:Int):List UInt8:=L++List.replicate (n.toNat - L.length) 0
theorem aCz (L:List UInt8):L=L++List.replicate 0 0:=by simp
theorem aCt {L:List UInt8}{k:Nat}:(L++List.replicate k (0:UInt8))++ [0]=L++List.replicate (k+1) 0:=by rw [List.append_assoc,←List.replicate_succ']
theorem tB {L:List UInt8}{k:Nat}:(L++List.replicate k (0:UInt8)).length=L.length+k:=by simp
theorem wG {L:List UInt8}{n:Int}{k:Nat} (h1:k≤n.toNat - L.length) (h2:¬((L++List.replicate k (0:UInt8)).length:Int)<n):L++List.replicate k 0=lC L n:=by
  rw [tB] at h2
  unfold lC
  rw [show k=n.toNat - L.length by omega]
theorem lD {L:List UInt8}{n:Int}:(lC L n).length=L.length+(n.toNat - L.length):=by simp [lC]
noncomputable def gW (f:DFs) (a n:Int) (busy:List Int):RFs:=if gO f a busy=0 then if 0≤n∧n≤32 then pN f a ((lC (bU f a) n).take n.toNat) busy else⟨3,⟨[],[]⟩⟩else⟨gO f a busy,⟨[],[]⟩⟩
theorem tW {f:DFs}{a n:Int}{busy:List Int} (h:¬gO f a busy=0):gW f a n busy=⟨gO f a busy,⟨[],[]⟩⟩:=if_neg h
theorem xC {f:DFs}{a n:Int}{busy:List Int} (h:gO f a busy=0) (h2:¬(0≤n∧n≤32)):gW f a n busy=⟨3,⟨[],[]⟩⟩:=by unfold gW;rw [if_pos h,if_neg h2]
theorem wP {f:DFs}{a n:Int}{busy:List Int} (h:gO f a busy=0) (h2:0≤n∧n≤32):gW f a n busy=pN f a ((lC (bU f a) n).take n.toNat) busy:=by unfold gW;rw [if_pos h,if_pos h2]
abbrev vC (f:DFs) (a n:Int):List UInt8:=(lC (bU f a) n).take n.toNat
def aHl (f:DFs) (a n:Int) (busy:List Int):Int:=if 0≤n∧n≤32 then(dB f (vC f a n) busy).code else 3
def aB0 (f:DFs) (a n:Int) (busy:List Int):DFs:=if 0≤n∧n≤32 then vA f a (vC f a n) busy else f
theorem aCn {f:DFs}{a n:Int}{busy:List Int} (h:0≤n∧n≤32):aHl f a n busy=(dB f (vC f a n) busy).code:=if_pos h
theorem aC1 {f:DFs}{a n:Int}{busy:List Int} (h:¬(0≤n∧n≤32)):aHl f a n busy=3:=if_neg h
theorem aCp {f:DFs}{a n:Int}{busy:List Int} (h:0≤n∧n≤32):aB0 f a n busy=vA f a (vC f a n) busy:=if_pos h
theorem aB9 {f:DFs}{a n:Int}{busy:List Int} (h:¬(0≤n∧n≤32)):aB0 f a n busy=f:=if_neg h
theorem aBx {f:DFs}{a n:Int}:(vC f a n).length=n.toNat:=by
  rw [List.length_take,lD];omega
theorem aHk {f:DFs}{a n:Int}{busy:List Int} (h:gO f a busy=0):gW f a n busy=fsR (aB0 f a n busy) (aHl f a n busy):=by
  by_cases h2:0≤n∧n≤32
  · rw [wP h h2, aCn h2, aCp h2]
    exact yZ (by rw [aBx];omega)
  · rw [xC h h2,aC1 h2,aB9 h2,aD4 (by decide)]
def tN (L:List UInt8) (i:Nat) (ys:List UInt8) (q:Nat):List UInt8:=L.take i++ys.take q++L.drop (i+q)
theorem aJw (L:List UInt8) (i:Nat) (ys:List UInt8):L=tN L i ys 0:=by simp [tN]
theorem aG1 {L:List UInt8}{i q:Nat}{ys:List UInt8} (h:i+q≤L.length) (h2:q≤ys.length):(tN L i ys q).length=L.length:=by
  simp only [tN,List.length_append,List.length_take,List.length_drop];omega
theorem aFg {L:List UInt8}{i q:Nat}{ys:List UInt8}{y:UInt8} (h:ys[q]? =some y) (hl:i+q<L.length):(tN L i ys q).set (i+q) y=tN L i ys (q+1):=by
  have hq:=(List.getElem?_eq_some_iff.1 h).1
  unfold tN
  have h1:(L.take i++ys.take q).length=i+q:=by rw [List.length_append,List.length_take,List.length_take];omega
  rw [List.set_append_right _ _ (by omega),h1,Nat.sub_self,List.drop_eq_getElem_cons hl,List.set_cons_zero,←kQ h]
  simp [List.append_assoc,Nat.add_assoc]
theorem aG9 {L:List UInt8}{i q:Nat}{ys:List UInt8} (h:ys.length≤q) (h2:q≤ys.length):tN L i ys q=tN L i ys ys.length:=by rw [show q=ys.length by omega]
abbrev aCg (f:DFs) (a i:Int) (ys:List UInt8):List UInt8:=tN (lC (bU f a) (i+ys.length)) i.toNat ys ys.length
noncomputable def hX (f:DFs) (a i:Int) (ys:List UInt8) (busy:List Int):RFs:=
  if gO f a busy=0 then if 0≤i∧i≤1000 then if 32<i+ys.length then⟨2,⟨[],[]⟩⟩else if(ys.length:Int)=0 then⟨0,f⟩else pN f a (aCg f a i ys) busy else⟨3,⟨[],[]⟩⟩else⟨gO f a busy,⟨[],[]⟩⟩
theorem qU {f:DFs}{a i:Int}{ys:List UInt8}{busy:List Int} (h:¬gO f a busy=0):hX f a i ys busy=⟨gO f a busy,⟨[],[]⟩⟩:=if_neg h
theorem rK {f:DFs}{a i:Int}{ys:List UInt8}{busy:List Int} (h:gO f a busy=0) (h2:¬(0≤i∧i≤1000)):hX f a i ys busy=⟨3,⟨[],[]⟩⟩:=by unfold hX;rw [if_pos h,if_neg h2]
theorem rB {f:DFs}{a i:Int}{ys:List UInt8}{busy:List Int} (h:gO f a busy=0) (h2:0≤i∧i≤1000) (h3:32<i+ys.length):hX f a i ys busy=⟨2,⟨[],[]⟩⟩:=by unfold hX;rw [if_pos h,if_pos h2,if_pos h3]
theorem rJ {f:DFs}{a i:Int}{ys:List UInt8}{busy:List Int} (h:gO f a busy=0) (h2:0≤i∧i≤1000) (h3:¬32<i+ys.length) (h4:(ys.length:Int)=0):hX f a i ys busy=⟨0,f⟩:=by unfold hX;rw [if_pos h,if_pos h2,if_neg h3,if_pos h4]
theorem rF {f:DFs}{a i:Int}{ys:List UInt8}{busy:List Int} (h:gO f a busy=0) (h2:0≤i∧i≤1000) (h3:¬32<i+ys.length) (h4:¬(ys.length:Int)=0):hX f a i ys busy=pN f a (aCg f a i ys) busy:=by unfold hX;rw [if_pos h,if_pos h2,if_neg h3,if_neg h4]
theorem xN {L:List UInt8}{q:Nat}:iQ L (q * 8) (Int.toNat (eM (L.length:Int) (((q+1) * 8:Nat):Int)))=mH L q:=by
  unfold mH
  have:=jC (L.length:Int) (((q+1) * 8:Nat):Int)
  rw [show Int.toNat (eM (L.length:Int) (((q+1) * 8:Nat):Int))=min ((q+1) * 8) L.length by omega]
theorem yT {L:List UInt8}{q:Nat}:iQ L (q * 8) (Int.toNat (eM (((q+1) * 8:Nat):Int) (L.length:Int)))=mH L q:=by
  rw [uH];exact xN
theorem aK5 {xs:List aF}{b:List Int} (h:bJ xs=0) (h2:gN b=0):jD xs b=0:=by unfold jD;rw [if_pos h,h2]
end Go.Proofs.YtmejbfmhaoilmaaGreat
/- What is proved: copy into a part of a slice of one's own. No condition. -/
namespace Go.Proofs.YtmejbfmhaoilmaaGreat
open Go Go.RowKit
set_option linter.unusedVariables false
set_option linter.unusedSimpArgs false
section
variable {P:Program}{T:eX}{o:Oper}{w0:World}{S0:Bs}{l l':List Asn}
end
end Go.Proofs.YtmejbfmhaoilmaaGreat
/- What is proved: paths: cut at a byte, joined again, in plain Lean. No condition. -/
namespace Go.Proofs.YtmejbfmhaoilmaaGreat
open Go Go.RowKit
set_option linter.unusedVariables false
set_option linter.unusedSimpArgs false
abbrev sl1:ByteArray:=⟨#[47]⟩
def wI : List UInt8 → List (List UInt8)
  | []=> [[]]
  | b :: l=>if b=47 then [] :: wI l else match wI l with | []=> [[b]] | p :: ps=>(b :: p) :: ps
theorem aC4 : ∀ {l : List UInt8}, (∀ b, b ∈ l → b ≠ 47) → wI l = [l]
  | [],_=>rfl
  | b :: l,h=>by
    unfold wI
    rw [if_neg (h b (by simp)),aC4 (fun c hc=>h c (by simp [hc]))]
theorem aD5 : ∀ {n : Nat} {l : List UInt8}, (∀ (j : Nat) b, j < n → l[j]? = some b → b ≠ 47) → l[n]? = some 47 → wI l = l.take n :: wI (l.drop (n + 1))
  | 0,[],_,h=>by simp at h
  | 0,b :: l,_,h=>by
    have:b=47:=by simpa using h
    subst this
    rw [wI,if_pos rfl]
    simp
  | n+1,[],_,h=>by simp at h
  | n+1,b :: l,ha,h=>by
    have ih:=aD5 (n:=n) (l:=l) (fun j c hj hc=>ha (j+1) c (by omega) (by simpa using hc)) (by simpa using h)
    have h0:b≠47:=ha 0 b (by omega) (by simp)
    rw [wI,if_neg h0,ih]
    simp
def vB (s:ByteArray):List ByteArray:=(wI s.data.toList).map oR
theorem tX (s:ByteArray):oR s.data.toList=s:=by cases s;simp [oR]
def CI (l:List UInt8) (m k:Nat) (out:List ByteArray):Prop:=
  m≤k∧(∀(j:Nat) b,m≤j→j<k→l[j]? =some b→b≠47)∧(wI l).map oR=out++(wI (l.drop m)).map oR
theorem aM1 {l:List UInt8}:CI l 0 0 []:=⟨Nat.le_refl _,fun j b h1 h2=>absurd h2 (by omega),rfl⟩
theorem aMo {l:List UInt8}{m k:Nat}{out:List ByteArray}{b:UInt8} (h:CI l m k out) (hb:l[k]? =some b) (hn:b≠47):CI l m (k+1) out:=
  ⟨by have:=h.1;omega,fun j c h1 h2 hc=>by
    rcases Nat.lt_succ_iff_lt_or_eq.1 h2 with h3 | rfl
    · exact h.2.1 j c h1 h3 hc
    · rw [hb] at hc;obtain rfl:=Option.some.inj hc;exact hn,h.2.2⟩
theorem aLm {s:ByteArray}{m k:Nat}{out:List ByteArray}{b:UInt8} (h:CI s.data.toList m k out) (hb:s.data.toList[k]? =some b) (hn:b=47):CI s.data.toList (k+1) (k+1) (out++ [s.extract m k]):=by
  subst hn
  obtain⟨h1,h2,h3⟩:=h
  refine⟨Nat.le_refl _,fun j c a b=>absurd a (by omega),?_⟩
  have hk:m+(k - m)=k:=by omega
  have e:=aD5 (n:=k - m) (l:=s.data.toList.drop m) (fun j c hj hc=>h2 (m+j) c (by omega) (by omega) (by rw [List.getElem?_drop] at hc;exact hc)) (by rw [List.getElem?_drop,hk];exact hb)
  rw [h3,e,List.drop_drop,List.map_cons,show m+(k - m+1)=k+1 by omega]
  have e2:s.extract m k=oR (List.take (k - m) (List.drop m s.data.toList)):=by
    rw [←tX (s.extract m k),Lib.extract_data]
  rw [e2]
  simp
theorem aCb {s:ByteArray}{m k:Nat}{out:List ByteArray} (h:CI s.data.toList m k out) (hk:k=s.size):out++ [s.extract m k]=vB s:=by
  subst hk
  obtain⟨h1,h2,h3⟩:=h
  unfold vB
  rw [h3,aC4 (fun b hb=>by
    obtain⟨j,hj⟩:=List.mem_iff_getElem?.1 hb
    rw [List.getElem?_drop] at hj
    have:=(List.getElem?_eq_some_iff.1 hj).1
    rw [mT] at this
    exact h2 (m+j) b (by omega) (by omega) hj)]
  have e:List.take (s.size - m) (List.drop m s.data.toList)=List.drop m s.data.toList:=List.take_of_length_le (by rw [List.length_drop,mT];omega)
  rw [←tX (s.extract m s.size),Lib.extract_data,e]
  simp
def pU : List ByteArray → Int
  | []=>0
  | s :: l=>if cK s=0 then pU l else cK s
theorem xD : ∀ {xs : List ByteArray}, (∀ (j : Nat) s, xs[j]? = some s → cK s = 0) → pU xs = 0
  | [],_=>rfl
  | s :: l,h=>by
    unfold pU
    rw [if_pos (h 0 s (by simp))]
    exact xD (fun j t ht=>h (j+1) t (by simpa using ht))
theorem yH : ∀ {xs : List ByteArray} {k : Nat} {s : ByteArray}, (∀ (j : Nat) s, j < k → xs[j]? = some s → cK s = 0) → xs[k]? = some s → ¬ cK s = 0 → pU xs = cK s
  | [],_,_,_,h,_=>by simp at h
  | t :: l,0,s,_,h,hn=>by
    have:t=s:=by simpa using h
    subst this
    unfold pU
    rw [if_neg hn]
  | t :: l,k+1,s,ha,h,hn=>by
    unfold pU
    rw [if_pos (ha 0 t (by omega) (by simp))]
    exact yH (k:=k) (fun j u hj hu=>ha (j+1) u (by omega) (by simpa using hu)) (by simpa using h) hn
theorem aA6 : ∀ {xs : List ByteArray}, pU xs = 0 → ∀ s, s ∈ xs → cK s = 0
  | [],_,_,h=>by simp at h
  | t :: l,h0,s,h=>by
    unfold pU at h0
    split at h0
    · rename_i ht
      rcases List.mem_cons.1 h with rfl | h
      · exact ht
      · exact aA6 h0 s h
    · rename_i ht;exact absurd h0 ht
def mM (xs:List ByteArray):Int:=if 6<xs.length then 2 else pU xs
theorem xS {xs:List ByteArray} (h:6<xs.length):mM xs=2:=if_pos h
theorem aFw {xs:List ByteArray} (h:¬6<xs.length) {k:Nat}{s:ByteArray} (ha:∀(j:Nat) s,j<k→xs[j]? =some s→cK s=0) (hs:xs[k]? =some s) (hn:¬cK s=0):mM xs=cK s:=by rw [mM,if_neg h,yH ha hs hn]
theorem xE {xs:List ByteArray} (h:¬6<xs.length) {k:Nat} (ha:∀(j:Nat) s,j<k→xs[j]? =some s→cK s=0) (hk:xs.length≤k):mM xs=0:=by
  rw [mM,if_neg h]
  exact xD fun j s hs=>ha j s (Nat.lt_of_lt_of_le (List.getElem?_eq_some_iff.1 hs).1 hk) hs
theorem aId {xs:List ByteArray} (h:mM xs=0):xs.length≤6∧∀s,s∈xs→cK s=0:=by
  unfold mM at h
  split at h
  · exact absurd h (by decide)
  · exact⟨by omega,aA6 h⟩
abbrev uQ (s:ByteArray):ByteArray:=ByteArray.extract s 1 s.size
def xA (s:ByteArray):Prop:=s.data.toList[0]? ≠some 47∨s.data.toList[s.size - 1]? =some 47
instance (s:ByteArray):Decidable (xA s):=by unfold xA;infer_instance
def fL (s:ByteArray):Int:=if 30<s.size then 2 else if s=sl1 then 0 else if xA s then 5 else mM (vB (uQ s))
def dR (s:ByteArray):List ByteArray:=if fL s=0∧s≠sl1 then vB (uQ s)else []
theorem aH7 {s:ByteArray} (h:30<s.size):fL s=2∧dR s= []:=by
  have:fL s=2:=if_pos h
  exact⟨this,by rw [dR,if_neg];rw [this];simp⟩
theorem aHw {s:ByteArray} (h:¬30<s.size) (h2:s=sl1):fL s=0∧dR s= []:=by
  have:fL s=0:=by rw [fL,if_neg h,if_pos h2]
  exact⟨this,by rw [dR,if_neg];simp [h2]⟩
theorem zA {s:ByteArray} (h:¬30<s.size) (h2:¬s=sl1) (h3:xA s):fL s=5∧dR s= []:=by
  have:fL s=5:=by rw [fL,if_neg h,if_neg h2,if_pos h3]
  exact⟨this,by rw [dR,if_neg];rw [this];simp⟩
theorem aIg {s:ByteArray} (h:¬30<s.size) (h2:¬s=sl1) (h3:¬xA s) (h4:¬mM (vB (uQ s))=0):fL s=mM (vB (uQ s))∧dR s= []:=by
  have:fL s=mM (vB (uQ s)):=by rw [fL,if_neg h,if_neg h2,if_neg h3]
  exact⟨this,by rw [dR,if_neg];rw [this];simp [h4]⟩
theorem aIi {s:ByteArray} (h:¬30<s.size) (h2:¬s=sl1) (h3:¬xA s) (h4:mM (vB (uQ s))=0):fL s=0∧dR s=vB (uQ s):=by
  have:fL s=0:=by rw [fL,if_neg h,if_neg h2,if_neg h3,h4]
  exact⟨this,by rw [dR,if_pos ⟨this,h2⟩]⟩
theorem pH (s:ByteArray):(dR s).length≤6∧∀x,x∈dR s→cK x=0:=by
  by_cases h:fL s=0∧s≠sl1
  · obtain ⟨h1, h2⟩ := h
    have h3:dR s=vB (uQ s):=by rw [dR,if_pos ⟨h1,h2⟩]
    unfold fL at h1
    split at h1
    · exact absurd h1 (by decide)
    · split at h1
      · exact absurd h1 (by decide)
      · rw [h3];exact aId h1
  · rw [dR,if_neg h];simp
def wS (xs:List ByteArray):List UInt8:=(xs.map (fun s=>47 :: s.data.toList)).flatten
def aBn (xs:List ByteArray):ByteArray:=if xs= []then sl1 else oR (wS xs)
theorem aEo {xs:List ByteArray} (h:∀s,s∈xs→cK s=0):(wS xs).length≤5 * xs.length:=by
  induction xs with
  | nil=>simp [wS]
  | cons x r ih=>
    have h1:=(uC (h x (by simp))).1
    have h2:=ih (fun s hs=>h s (by simp [hs]))
    have h3:=mT x
    simp only [wS,List.map_cons,List.flatten_cons,List.length_append,List.length_cons] at h2 ⊢
    omega
def jnB (xs:List ByteArray):ByteArray:=oR (wS xs)
theorem aKk {xs:List ByteArray}{k:Nat}{x:ByteArray} (h:xs[k]? =some x):jnB (xs.take k)++sl1++x=jnB (xs.take (k+1)):=by
  rw [List.take_add_one,h]
  have e:∀a b:ByteArray,a=oR b.data.toList→a=b:=fun a b h=>by rw [h,tX]
  symm
  apply e
  unfold jnB
  congr 1
  simp [wS,oR]
theorem aI0 {xs:List ByteArray}:(jnB xs=⟨#[]⟩)↔xs= []:=by
  constructor
  · intro h
    cases xs with
    | nil=>rfl
    | cons x r=>
      have:=congrArg (fun b:ByteArray=>b.data.toList) h
      simp [jnB,oR,wS] at this
  · rintro rfl;rfl
theorem aEd {xs:List ByteArray} (h:jnB xs=⟨#[]⟩):aBn xs=sl1:=if_pos (aI0.1 h)
theorem aD2 {xs:List ByteArray} (h:¬jnB xs=⟨#[]⟩):aBn xs=jnB xs:=if_neg (fun e=>h (aI0.2 e))
theorem aBy {xs:List ByteArray} (h:∀s,s∈xs→cK s=0):(jnB xs).size≤5 * xs.length:=by
  have:=aEo h
  simpa [jnB,oR,ByteArray.size] using this
theorem aC0 {xs:List ByteArray} (h:∀s,s∈xs→cK s=0):(aBn xs).size≤5 * xs.length+1:=by
  unfold aBn
  split
  · show(1:Nat)≤_;omega
  · have:=aBy h;unfold jnB at this;omega
theorem oQ {b:UInt8}:(b.toNat:Int)=47↔b=47:=⟨fun h=>UInt8.toNat_inj.1 (show b.toNat=(47:UInt8).toNat by have:(47:UInt8).toNat=47:=rfl;omega),fun h=>by subst h;rfl⟩
theorem aFi {s:ByteArray} (h:(s.size:Int)=0):xA s:= .inl (by rw [List.getElem?_eq_none (by rw [mT];omega)];simp)
theorem aIw {s:ByteArray}{b:UInt8} (hb:s.data.toList[0]? =some b) (h:¬(b.toNat:Int)=47):xA s:= .inl (by rw [hb];intro e;exact h (oQ.2 (Option.some.inj e)))
theorem aKd {s:ByteArray}{b:UInt8}{j:Nat} (hb:s.data.toList[j]? =some b) (hj:j=s.size - 1) (h:(b.toNat:Int)=47):xA s:= .inr (by rw [←hj,hb,oQ.1 h])
theorem aK7 {s:ByteArray}{b c:UInt8}{j:Nat} (hb:s.data.toList[0]? =some b) (h:(b.toNat:Int)=47) (hc:s.data.toList[j]? =some c) (hj:j=s.size - 1) (hn:¬(c.toNat:Int)=47):¬xA s:=by
  rintro(h1 | h1)
  · exact h1 (by rw [hb,oQ.1 h])
  · rw [←hj,hc] at h1;exact hn (oQ.2 (Option.some.inj h1))
theorem aIz {s:ByteArray} (h:s.data.toList[0]? =some 47) (h2:¬s.data.toList[s.size - 1]? =some 47):¬xA s:=by
  rintro(h1 | h1)
  · exact h1 h
  · exact h2 h1
def kX (s:ByteArray):Int:=if fL s=0 then if dR s= []then 4 else 0 else fL s
def gL (s:ByteArray):List ByteArray:=if kX s=0 then(dR s).take ((dR s).length - 1)else []
def pZ (s:ByteArray):ByteArray:=if kX s=0 then((dR s)[(dR s).length - 1]?).getD ⟨#[]⟩else⟨#[]⟩
theorem aGi {s:ByteArray} (h:¬fL s=0):kX s=fL s∧gL s= []∧pZ s=⟨#[]⟩:=by
  have:kX s=fL s:=if_neg h
  exact⟨this,by rw [gL,this,if_neg h],by rw [pZ,this,if_neg h]⟩
theorem aF2 {s:ByteArray} (h:fL s=0) (h2:dR s= []):kX s=4∧gL s= []∧pZ s=⟨#[]⟩:=by
  have:kX s=4:=by rw [kX,if_pos h,if_pos h2]
  exact⟨this,by rw [gL,this,if_neg (by decide)],by rw [pZ,this,if_neg (by decide)]⟩
theorem aJ7 {s:ByteArray} (h:fL s=0) (h2:¬dR s= []):kX s=0∧gL s=(dR s).take ((dR s).length - 1)∧∀(j:Nat) x,j=(dR s).length - 1→(dR s)[j]? =some x→pZ s=x:=by
  have:kX s=0:=by rw [kX,if_pos h,if_neg h2]
  exact⟨this,by rw [gL,if_pos this],fun j x hj hx=>by rw [pZ,if_pos this,←hj,hx];rfl⟩
theorem aAc {α:Type}{xs:List α}:(xs.length:Int)=0↔xs= []:=by rw [←List.length_eq_zero_iff];omega
theorem aHg (s:ByteArray):(gL s).length≤6∧∀x,x∈gL s→cK x=0:=by
  have h:=pH s
  unfold gL
  split
  · exact⟨by rw [List.length_take];omega,fun x hx=>h.2 x (List.mem_of_mem_take hx)⟩
  · simp
theorem wU (s:ByteArray):(pZ s).size≤4:=by
  unfold pZ
  split
  · cases hx:(dR s)[(dR s).length - 1]? with
    | none=>exact Nat.zero_le _
    | some x=>exact(uC ((pH s).2 x (List.mem_of_getElem? hx))).1
  · exact Nat.zero_le _
theorem aBe {s:ByteArray}{a b B:Nat} (h:s.size≤B):(ByteArray.extract s a b).size≤B:=by rw [ByteArray.size_extract];omega
end Go.Proofs.YtmejbfmhaoilmaaGreat
/- What is proved: the library's contracts on strings, told of our kinds. No condition. -/
namespace Go.Proofs.YtmejbfmhaoilmaaGreat
open Go Go.RowKit
set_option linter.unusedVariables false
set_option linter.unusedSimpArgs false
def aCd (g:Nat) (w:World) (F:Bs):Prop:=∃m:Int,gJ (gV .i64) w F ⟨g,0,none⟩ m
theorem aCd.tr {g:Nat}{w0 w:World}{S0 S1:Bs}{lr:List Asn} (tr:Tr w0 S0 w S1 lr) (h:aCd g w0 (FF w0 S0)):aCd g w (FF w S1):=h.imp fun _ h=>tr.ctxP h
theorem aCd.cell {g:Nat}{w:World}{F:Bs} (h:aCd g w F):∃m:Int,w.cell? ⟨g,0,none⟩=some (.int .i64 m):=by
  obtain⟨m,ecs,hF,⟨rfl, -⟩,hc⟩:=h
  exact⟨m,by simpa [Addr.add] using hc 0 _ rfl⟩
theorem aCd.of {g:Nat}{w:World}{F:Bs} (hF:F g) (h:∃m:Int,w.cell? ⟨g,0,none⟩=some (.int .i64 m)):aCd g w F:=by
  obtain⟨m,hm⟩:=h
  refine⟨m,[.int .i64 m],hF,⟨rfl,trivial⟩,fun i u hu=> ?_⟩
  cases i with
  | zero=>simp at hu;subst hu;simpa [Addr.add] using hm
  | succ i=>simp at hu
end Go.Proofs.YtmejbfmhaoilmaaGreat

/- What is proved: an argument that was read out of memory, of a kind: what the kind says holds of its cells. No condition. -/
import Derived.Test.YtmejbfmhaoilmaaGreatBase0
import Derived.ChangeArms
import Derived.SizedLaws
import Derived.OpenShut
import Derived.ChangeMaps5
import Derived.Tactics
import Derived.Lib.SlicesCompact
import Derived.Sort.Row
import Derived.Sort.Grow
namespace Go.Proofs.YtmejbfmhaoilmaaGreat
open Go Go.RowKit
set_option linter.unusedVariables false
set_option linter.unusedSimpArgs false
def InW (W:World):Bs:=fun b=>b<W.heap.size
section
variable {H:Type} (enc:TypeId×Value→H) (P:Program) (W:World)
def Ko {α:Type} (t:TypeId) (K:Kd α):Prop:=∀(fuel:Nat) (cs:List Value) (x:DataW H×List MemPlace),DataW.trod enc P W 0 (fun _=>true) true fuel t cs=some x→(x.1.weights P t).all (· ≤reachBytes)=true→∃y,K.ro W (InW W) y cs
def KoF {α:Type} (ps:List (TypeId×Nat)) (off:Nat) (K:Kd α):Prop:=∀(n:Nat) (cs:List Value) (xs:List (DataW H×List MemPlace)),off+K.sz≤cs.length→xs.length=ps.length→
  (∀(i:Nat) (t:TypeId) (o:Nat),ps[i]? =some (t,o)→DataW.trod enc P W 0 (fun _=>true) true n t ((cs.drop o).take (P.cellsOf t))=xs[i]?)→(DataW.weightsEach P (ps.map (·.1)) (xs.map (·.1))).all (· ≤reachBytes)=true→∃y,K.ro W (InW W) y ((cs.drop off).take K.sz)
end
section
variable {H:Type}{enc:TypeId×Value→H}{P:Program}{W:World}
theorem Ko.int {t:TypeId}{k:IntKind} (ht:P.underlying t=some (.int k)):Ko enc P W t (iQ k):=fun fuel cs x h _=>by
  obtain⟨n,rfl,_,_⟩:=DataW.trod_int ht h
  exact⟨n,rfl,trivial⟩
theorem Ko.bool {t:TypeId} (ht:P.underlying t=some .bool):Ko enc P W t aCv:=fun fuel cs x h _=>by
  obtain⟨n,rfl,_⟩:=DataW.trod_bool ht h
  exact⟨n,rfl,trivial⟩
theorem Ko.a {t:TypeId} (ht:P.underlying t=some (.int .u8)):Ko enc P W t sZ:=fun fuel cs x h _=>by
  obtain⟨n,rfl,_,hw⟩:=DataW.trod_int ht h
  have hn:0≤n∧n<256:=by
    have h1:=of_decide_eq_true (Bool.and_eq_true_iff.1 (show(decide (IntKind.min .u8≤n) && decide (n≤IntKind.max .u8))=true from hw)).1
    have h2:=of_decide_eq_true (Bool.and_eq_true_iff.1 (show(decide (IntKind.min .u8≤n) && decide (n≤IntKind.max .u8))=true from hw)).2
    have e1:IntKind.min .u8=0:=by decide
    have e2:IntKind.max .u8=255:=by decide
    omega
  refine⟨UInt8.ofNat n.toNat,?_,trivial⟩
  have:((UInt8.ofNat n.toNat).toNat:Int)=n:=by
    rw [UInt8.toNat_ofNat'];omega
  show [Value.int .u8 n]= [Value.int .u8 ((UInt8.ofNat n.toNat).toNat:Int)]
  rw [this]
theorem aBl {β : Type} {p : Nat → β → Prop} : ∀ n, (∀ j, j < n → ∃ c, p j c) → ∃ css : List β, css.length = n ∧ ∀ j c, css[j]? = some c → p j c
  | 0,_=>⟨[],rfl,by simp⟩
  | n+1,h=>by
    obtain⟨css,h1,h2⟩:=aBl n (fun j hj=>h j (by omega))
    obtain⟨c,hc⟩:=h n (by omega)
    refine⟨css++ [c],by simp [h1],fun j d hd=> ?_⟩
    rw [List.getElem?_append] at hd
    split at hd
    · exact h2 j d hd
    · rename_i hj
      have:j - css.length=0:=by
        have:=(List.getElem?_eq_some_iff.1 hd).1
        simp at this;omega
      have e:j=n:=by omega
      subst e
      rw [h1] at hd
      simp at hd
      subst hd
      exact hc
theorem qX {e : TypeId} : ∀ {ds : List (DataW H)} {d : DataW H}, d ∈ ds → (DataW.weightsAll P e ds).all (· ≤ reachBytes) = true → (d.weights P e).all (· ≤ reachBytes) = true
  | d0 :: ds,d,hd,h=>by
    simp only [DataW.weightsAll,List.all_append,Bool.and_eq_true] at h
    rcases List.mem_cons.1 hd with rfl | hd
    · exact h.1
    · exact qX hd h.2
  | [],d,hd,_=>by cases hd
theorem Ko.slice {α:Type}{K:Kd α}{t e:TypeId}{by_:Nat} (ht:P.underlying t=some (.slice e)) (hc:P.cellsOf e=K.sz) (hb:P.bytesOf e=by_) (hK:Ko enc P W e K):Ko enc P W t (bA e by_ K):=fun fuel cs x h hw=>by
  rcases DataW.trod_slice ht h with ⟨rfl,rfl⟩ |⟨a,len,cap,elems,rest,n,rfl,rfl,rfl,hb0,hl,hm,hlen,hel,hsp,_⟩
  · exact⟨[],mI⟩
  · simp only [DataW.weights, ht, List.all_cons, List.all_append, Bool.and_eq_true, decide_eq_true_eq, List.length_map] at hw
    obtain⟨hw1,hw2,_⟩:=hw
    rw [hb] at hw1
    have each:∀j,j<len→∃y,∃ecs,K.ro W (InW W) y ecs∧InW W a.block∧∀i u,ecs[i]? =some u→W.cell? (a.add (j * K.sz+i))=some u:=by
      intro j hj
      have h1:=hel j hj
      rw [List.getElem?_eq_getElem (by omega),Option.bind_eq_some_iff] at h1
      obtain⟨ecs,h2,h3⟩:=h1
      obtain⟨y,hy⟩:=hK n ecs _ h3 (qX (List.mem_map.2 ⟨_,List.getElem_mem _,rfl⟩) hw2)
      obtain⟨_,hlen2,hcells⟩:=World.cells?_some h2
      have hsz:=K.ro_len hy
      have hcell:∀i u,ecs[i]? =some u→W.cell? (a.add (j * K.sz+i))=some u:=fun i u hu=>by
        have hi:i<P.cellsOf e:=by have:=(List.getElem?_eq_some_iff.1 hu).1;omega
        have:=hcells i hi
        rw [gA,hc] at this
        rw [this,hu]
      refine⟨y,ecs,hy,?_,hcell⟩
      have hpos:=K.pos
      have h0:=hcell 0 ecs[0] (List.getElem?_eq_getElem (by omega))
      unfold World.cell? at h0
      rw [kO] at h0
      unfold InW
      cases hh:W.heap[a.block]? with
      | none=>rw [hh] at h0;simp at h0
      | some b=>exact(Array.getElem?_eq_some_iff.1 hh).1
    obtain⟨xs,hxl,hxs⟩:=aBl len each
    refine⟨xs,some a,cap,by rw [hxl],by rw [hxl];exact hl,hm,?_,fun hp=>⟨a,rfl,?_,fun j y hy=> ?_⟩⟩
    · have : xs.length * by_ ≤ (elems.length + rest.length) * by_ := Nat.mul_le_mul_right _ (by omega)
      unfold reachBytes at hw1
      omega
    · obtain ⟨ecs, _, h, _⟩ := hxs 0 _ (List.getElem?_eq_getElem hp)
      exact h
    · obtain ⟨ecs, h1, _, h2⟩ := hxs j y hy
      exact⟨ecs,h1,h2⟩
theorem KoF.one {α:Type}{K:Kd α}{t:TypeId}{off:Nat} (hc:P.cellsOf t=K.sz) (h:Ko enc P W t K):KoF enc P W [(t,off)] off K:=fun n cs xs hl hx hf hw=>by
  have h0:=hf 0 t off rfl
  rw [List.getElem?_eq_getElem (by simp at hx;omega),hc] at h0
  refine h n _ _ h0 ?_
  match xs,hx with
  | [x],_=>
    simp only [List.map_cons,List.map_nil,DataW.weightsEach,List.append_nil] at hw
    exact hw
theorem KoF.cons {α β:Type}{A:Kd α}{B:Kd β}{t:TypeId}{ps:List (TypeId×Nat)}{off off':Nat} (hc:P.cellsOf t=A.sz) (ho:off+A.sz=off') (h:Ko enc P W t A) (hs:KoF enc P W ps off' B):KoF enc P W ((t,off) :: ps) off (jM A B):=fun n cs xs hl hx hf hw=>by
  subst ho
  have hsz:(jM A B).sz=A.sz+B.sz:=rfl
  match xs,hx with
  | x :: xs,hx=>
    simp only [List.map_cons,DataW.weightsEach,List.all_append,Bool.and_eq_true] at hw
    have h0:=hf 0 t off rfl
    rw [List.getElem?_cons_zero,hc] at h0
    obtain⟨y1,hy1⟩:=h n _ _ h0 hw.1
    obtain⟨y2,hy2⟩:=hs n cs xs (by rw [hsz] at hl;omega) (by simpa using hx) (fun i t' o' hi=>by have:=hf (i+1) t' o' (by simpa using hi);simpa using this) hw.2
    refine⟨(y1,y2),_,_,?_,hy1,hy2⟩
    rw [hsz,List.take_add,List.drop_drop]
theorem Ko.struct {α β:Type}{K:Kd α}{t:TypeId}{fs:Array Field}{ps:List (TypeId×Nat)}{g:β→α} (ht:P.underlying t=some (.struct fs)) (hps:fs.toList.map (fun f=>(f.type,f.offset))=ps) (hc:P.cellsOf t=K.sz) (hF:KoF enc P W ps 0 K) (inv:α→β) (hg:∀y,g (inv y)=y):Ko enc P W t (aFj K g):=fun fuel cs x h hw=>by
  obtain⟨xs,n,rfl,rfl,hl,hx,hf⟩:=DataW.trod_struct ht h
  subst hps
  have hw':(DataW.weightsEach P ((fs.toList.map (fun f=>(f.type,f.offset))).map (·.1)) (xs.map (·.1))).all (· ≤reachBytes)=true:=by
    simp only [DataW.weights,ht] at hw
    rw [List.map_map]
    exact hw
  obtain⟨y,hy⟩:=hF n cs xs (by omega) (by simp [hx]) (fun i t' o hi=>by
    simp only [List.getElem?_map,Option.map_eq_some_iff] at hi
    obtain⟨f,h1,h2⟩:=hi
    obtain⟨rfl,rfl⟩:=Prod.mk.inj h2
    exact hf i f (by simpa using h1)) hw'
  refine⟨inv y,?_⟩
  show K.ro W (InW W) (g (inv y)) cs
  rw [hg]
  have:(cs.drop 0).take K.sz=cs:=by rw [List.drop_zero,List.take_of_length_le (by omega)]
  rwa [this] at hy
theorem Ko.arg {α:Type}{K:Kd α}{t:TypeId}{v:Value}{d:DataW H}{p:List MemPlace} (h:Ko enc P W t K) (hd:DataW.Trod enc P W 0 (fun _=>true) true t v d p) (hw:(d.weights P t).all (· ≤reachBytes)=true):∃y,K.ro W (FF W (fun _=>False)) y v.cells.toList:=by
  obtain⟨fuel,hf⟩:=hd
  obtain⟨y,hy⟩:=h fuel _ (d,p) hf hw
  exact⟨y,K.ro_up hy (fun b hb=>⟨hb,fun h=>h⟩)⟩
theorem Ko.g {α:Type}{K:Kd α}{t:TypeId}{v:Value}{d:DataW H}{p:List MemPlace} (h:Ko enc P W t K) (hd:DataW.Trod enc P W 0 (fun _=>true) true t v d p) (hw:(d.weights P t).all (· ≤reachBytes)=true) (ho:∃A n c,v= .slice A n c):∃y,K.ro W (FF W (fun _=>False)) y [v]:=by
  obtain⟨A,n,c,rfl⟩:=ho
  exact h.arg hd hw
theorem aFn {t:TypeId}{ts:List TypeId}{d:DataW H}{ds:List (DataW H)} (h:(DataW.weightsEach P (t :: ts) (d :: ds)).all (· ≤reachBytes)=true):(d.weights P t).all (· ≤reachBytes)=true∧(DataW.weightsEach P ts ds).all (· ≤reachBytes)=true:=by
  simp only [DataW.weightsEach,List.all_append,Bool.and_eq_true] at h
  exact h
end
theorem aJi {P:Program}{f:FuncId}{args:Array Value}{W:World} (h:Calls P f args W (aJ W (fun _=>False) (fun r l=>r= .bool true∧l= []))):Calls P f args W (fun e W'=>e= .returned (.bool true)∧Below W.heap.size W W'):=
  h.mono fun e W' ⟨r,l,he,⟨hr,_⟩,⟨S,_,_,hf⟩⟩=>by
    subst hr
    exact⟨he,hf.below⟩
end Go.Proofs.YtmejbfmhaoilmaaGreat
/- What is proved: short names of the rules that walks use most. No condition. -/
namespace Go.Proofs.YtmejbfmhaoilmaaGreat
open Go Go.RowKit
set_option linter.unusedVariables false
theorem Get.g1 {α:Type}{q0 p:α}{l:List α}:Get (q0 :: p :: l) p:= .s .z
theorem Er.g1 {α:Type}{q0 p:α}{l:List α}:Er (q0 :: p :: l) p (q0 :: l):= .s .z
theorem fP.g1 {q0 p:Asn}{l:List Asn}:fP (q0 :: p :: l) p (q0 :: l):= .s .z
theorem Sb.g1 {q0:Asn}{l:List Asn}:Sb (q0 :: l) l:= .s .z
theorem nI.g1 {q0 u v:Value}{l:List Value}:nI (q0 :: u :: l) 1 v (q0 :: v :: l):= .s .z
theorem Get.g2 {α:Type}{q0 q1 p:α}{l:List α}:Get (q0 :: q1 :: p :: l) p:= .s (.s .z)
theorem Er.g2 {α:Type}{q0 q1 p:α}{l:List α}:Er (q0 :: q1 :: p :: l) p (q0 :: q1 :: l):= .s (.s .z)
theorem fP.g2 {q0 q1 p:Asn}{l:List Asn}:fP (q0 :: q1 :: p :: l) p (q0 :: q1 :: l):= .s (.s .z)
theorem Sb.g2 {q0 q1:Asn}{l:List Asn}:Sb (q0 :: q1 :: l) l:= .s (.s .z)
theorem nI.g2 {q0 q1 u v:Value}{l:List Value}:nI (q0 :: q1 :: u :: l) 2 v (q0 :: q1 :: v :: l):= .s (.s .z)
theorem Get.g3 {α:Type}{q0 q1 q2 p:α}{l:List α}:Get (q0 :: q1 :: q2 :: p :: l) p:= .s (.s (.s .z))
theorem Er.g3 {α:Type}{q0 q1 q2 p:α}{l:List α}:Er (q0 :: q1 :: q2 :: p :: l) p (q0 :: q1 :: q2 :: l):= .s (.s (.s .z))
theorem fP.g3 {q0 q1 q2 p:Asn}{l:List Asn}:fP (q0 :: q1 :: q2 :: p :: l) p (q0 :: q1 :: q2 :: l):= .s (.s (.s .z))
theorem Sb.g3 {q0 q1 q2:Asn}{l:List Asn}:Sb (q0 :: q1 :: q2 :: l) l:= .s (.s (.s .z))
theorem nI.g3 {q0 q1 q2 u v:Value}{l:List Value}:nI (q0 :: q1 :: q2 :: u :: l) 3 v (q0 :: q1 :: q2 :: v :: l):= .s (.s (.s .z))
theorem Get.g4 {α:Type}{q0 q1 q2 q3 p:α}{l:List α}:Get (q0 :: q1 :: q2 :: q3 :: p :: l) p:= .s (.s (.s (.s .z)))
theorem Er.g4 {α:Type}{q0 q1 q2 q3 p:α}{l:List α}:Er (q0 :: q1 :: q2 :: q3 :: p :: l) p (q0 :: q1 :: q2 :: q3 :: l):= .s (.s (.s (.s .z)))
theorem fP.g4 {q0 q1 q2 q3 p:Asn}{l:List Asn}:fP (q0 :: q1 :: q2 :: q3 :: p :: l) p (q0 :: q1 :: q2 :: q3 :: l):= .s (.s (.s (.s .z)))
theorem Sb.g4 {q0 q1 q2 q3:Asn}{l:List Asn}:Sb (q0 :: q1 :: q2 :: q3 :: l) l:= .s (.s (.s (.s .z)))
theorem nI.g4 {q0 q1 q2 q3 u v:Value}{l:List Value}:nI (q0 :: q1 :: q2 :: q3 :: u :: l) 4 v (q0 :: q1 :: q2 :: q3 :: v :: l):= .s (.s (.s (.s .z)))
theorem Get.g5 {α:Type}{q0 q1 q2 q3 q4 p:α}{l:List α}:Get (q0 :: q1 :: q2 :: q3 :: q4 :: p :: l) p:= .s (.s (.s (.s (.s .z))))
theorem Er.g5 {α:Type}{q0 q1 q2 q3 q4 p:α}{l:List α}:Er (q0 :: q1 :: q2 :: q3 :: q4 :: p :: l) p (q0 :: q1 :: q2 :: q3 :: q4 :: l):= .s (.s (.s (.s (.s .z))))
theorem fP.g5 {q0 q1 q2 q3 q4 p:Asn}{l:List Asn}:fP (q0 :: q1 :: q2 :: q3 :: q4 :: p :: l) p (q0 :: q1 :: q2 :: q3 :: q4 :: l):= .s (.s (.s (.s (.s .z))))
theorem Sb.g5 {q0 q1 q2 q3 q4:Asn}{l:List Asn}:Sb (q0 :: q1 :: q2 :: q3 :: q4 :: l) l:= .s (.s (.s (.s (.s .z))))
theorem nI.g5 {q0 q1 q2 q3 q4 u v:Value}{l:List Value}:nI (q0 :: q1 :: q2 :: q3 :: q4 :: u :: l) 5 v (q0 :: q1 :: q2 :: q3 :: q4 :: v :: l):= .s (.s (.s (.s (.s .z))))
theorem Get.g6 {α:Type}{q0 q1 q2 q3 q4 q5 p:α}{l:List α}:Get (q0 :: q1 :: q2 :: q3 :: q4 :: q5 :: p :: l) p:= .s (.s (.s (.s (.s (.s .z)))))
theorem Er.g6 {α:Type}{q0 q1 q2 q3 q4 q5 p:α}{l:List α}:Er (q0 :: q1 :: q2 :: q3 :: q4 :: q5 :: p :: l) p (q0 :: q1 :: q2 :: q3 :: q4 :: q5 :: l):= .s (.s (.s (.s (.s (.s .z)))))
theorem fP.g6 {q0 q1 q2 q3 q4 q5 p:Asn}{l:List Asn}:fP (q0 :: q1 :: q2 :: q3 :: q4 :: q5 :: p :: l) p (q0 :: q1 :: q2 :: q3 :: q4 :: q5 :: l):= .s (.s (.s (.s (.s (.s .z)))))
theorem Sb.g6 {q0 q1 q2 q3 q4 q5:Asn}{l:List Asn}:Sb (q0 :: q1 :: q2 :: q3 :: q4 :: q5 :: l) l:= .s (.s (.s (.s (.s (.s .z)))))
theorem nI.g6 {q0 q1 q2 q3 q4 q5 u v:Value}{l:List Value}:nI (q0 :: q1 :: q2 :: q3 :: q4 :: q5 :: u :: l) 6 v (q0 :: q1 :: q2 :: q3 :: q4 :: q5 :: v :: l):= .s (.s (.s (.s (.s (.s .z)))))
theorem Get.g7 {α:Type}{q0 q1 q2 q3 q4 q5 q6 p:α}{l:List α}:Get (q0 :: q1 :: q2 :: q3 :: q4 :: q5 :: q6 :: p :: l) p:= .s (.s (.s (.s (.s (.s (.s .z))))))
theorem Er.g7 {α:Type}{q0 q1 q2 q3 q4 q5 q6 p:α}{l:List α}:Er (q0 :: q1 :: q2 :: q3 :: q4 :: q5 :: q6 :: p :: l) p (q0 :: q1 :: q2 :: q3 :: q4 :: q5 :: q6 :: l):= .s (.s (.s (.s (.s (.s (.s .z))))))
theorem fP.g7 {q0 q1 q2 q3 q4 q5 q6 p:Asn}{l:List Asn}:fP (q0 :: q1 :: q2 :: q3 :: q4 :: q5 :: q6 :: p :: l) p (q0 :: q1 :: q2 :: q3 :: q4 :: q5 :: q6 :: l):= .s (.s (.s (.s (.s (.s (.s .z))))))
theorem Sb.g7 {q0 q1 q2 q3 q4 q5 q6:Asn}{l:List Asn}:Sb (q0 :: q1 :: q2 :: q3 :: q4 :: q5 :: q6 :: l) l:= .s (.s (.s (.s (.s (.s (.s .z))))))
theorem nI.g7 {q0 q1 q2 q3 q4 q5 q6 u v:Value}{l:List Value}:nI (q0 :: q1 :: q2 :: q3 :: q4 :: q5 :: q6 :: u :: l) 7 v (q0 :: q1 :: q2 :: q3 :: q4 :: q5 :: q6 :: v :: l):= .s (.s (.s (.s (.s (.s (.s .z))))))
theorem Get.g8 {α:Type}{q0 q1 q2 q3 q4 q5 q6 q7 p:α}{l:List α}:Get (q0 :: q1 :: q2 :: q3 :: q4 :: q5 :: q6 :: q7 :: p :: l) p:= .s (.s (.s (.s (.s (.s (.s (.s .z)))))))
theorem Er.g8 {α:Type}{q0 q1 q2 q3 q4 q5 q6 q7 p:α}{l:List α}:Er (q0 :: q1 :: q2 :: q3 :: q4 :: q5 :: q6 :: q7 :: p :: l) p (q0 :: q1 :: q2 :: q3 :: q4 :: q5 :: q6 :: q7 :: l):= .s (.s (.s (.s (.s (.s (.s (.s .z)))))))
theorem fP.g8 {q0 q1 q2 q3 q4 q5 q6 q7 p:Asn}{l:List Asn}:fP (q0 :: q1 :: q2 :: q3 :: q4 :: q5 :: q6 :: q7 :: p :: l) p (q0 :: q1 :: q2 :: q3 :: q4 :: q5 :: q6 :: q7 :: l):= .s (.s (.s (.s (.s (.s (.s (.s .z)))))))
theorem Sb.g8 {q0 q1 q2 q3 q4 q5 q6 q7:Asn}{l:List Asn}:Sb (q0 :: q1 :: q2 :: q3 :: q4 :: q5 :: q6 :: q7 :: l) l:= .s (.s (.s (.s (.s (.s (.s (.s .z)))))))
theorem nI.g8 {q0 q1 q2 q3 q4 q5 q6 q7 u v:Value}{l:List Value}:nI (q0 :: q1 :: q2 :: q3 :: q4 :: q5 :: q6 :: q7 :: u :: l) 8 v (q0 :: q1 :: q2 :: q3 :: q4 :: q5 :: q6 :: q7 :: v :: l):= .s (.s (.s (.s (.s (.s (.s (.s .z)))))))
theorem Get.g9 {α:Type}{q0 q1 q2 q3 q4 q5 q6 q7 q8 p:α}{l:List α}:Get (q0 :: q1 :: q2 :: q3 :: q4 :: q5 :: q6 :: q7 :: q8 :: p :: l) p:= .s (.s (.s (.s (.s (.s (.s (.s (.s .z))))))))
theorem Er.g9 {α:Type}{q0 q1 q2 q3 q4 q5 q6 q7 q8 p:α}{l:List α}:Er (q0 :: q1 :: q2 :: q3 :: q4 :: q5 :: q6 :: q7 :: q8 :: p :: l) p (q0 :: q1 :: q2 :: q3 :: q4 :: q5 :: q6 :: q7 :: q8 :: l):= .s (.s (.s (.s (.s (.s (.s (.s (.s .z))))))))
theorem fP.g9 {q0 q1 q2 q3 q4 q5 q6 q7 q8 p:Asn}{l:List Asn}:fP (q0 :: q1 :: q2 :: q3 :: q4 :: q5 :: q6 :: q7 :: q8 :: p :: l) p (q0 :: q1 :: q2 :: q3 :: q4 :: q5 :: q6 :: q7 :: q8 :: l):= .s (.s (.s (.s (.s (.s (.s (.s (.s .z))))))))
theorem Sb.g9 {q0 q1 q2 q3 q4 q5 q6 q7 q8:Asn}{l:List Asn}:Sb (q0 :: q1 :: q2 :: q3 :: q4 :: q5 :: q6 :: q7 :: q8 :: l) l:= .s (.s (.s (.s (.s (.s (.s (.s (.s .z))))))))
theorem Get.g10 {α:Type}{q0 q1 q2 q3 q4 q5 q6 q7 q8 q9 p:α}{l:List α}:Get (q0 :: q1 :: q2 :: q3 :: q4 :: q5 :: q6 :: q7 :: q8 :: q9 :: p :: l) p:= .s (.s (.s (.s (.s (.s (.s (.s (.s (.s .z)))))))))
theorem Er.g10 {α:Type}{q0 q1 q2 q3 q4 q5 q6 q7 q8 q9 p:α}{l:List α}:Er (q0 :: q1 :: q2 :: q3 :: q4 :: q5 :: q6 :: q7 :: q8 :: q9 :: p :: l) p (q0 :: q1 :: q2 :: q3 :: q4 :: q5 :: q6 :: q7 :: q8 :: q9 :: l):= .s (.s (.s (.s (.s (.s (.s (.s (.s (.s .z)))))))))
theorem fP.g10 {q0 q1 q2 q3 q4 q5 q6 q7 q8 q9 p:Asn}{l:List Asn}:fP (q0 :: q1 :: q2 :: q3 :: q4 :: q5 :: q6 :: q7 :: q8 :: q9 :: p :: l) p (q0 :: q1 :: q2 :: q3 :: q4 :: q5 :: q6 :: q7 :: q8 :: q9 :: l):= .s (.s (.s (.s (.s (.s (.s (.s (.s (.s .z)))))))))
theorem Sb.g10 {q0 q1 q2 q3 q4 q5 q6 q7 q8 q9:Asn}{l:List Asn}:Sb (q0 :: q1 :: q2 :: q3 :: q4 :: q5 :: q6 :: q7 :: q8 :: q9 :: l) l:= .s (.s (.s (.s (.s (.s (.s (.s (.s (.s .z)))))))))
theorem Get.g11 {α:Type}{q0 q1 q2 q3 q4 q5 q6 q7 q8 q9 q10 p:α}{l:List α}:Get (q0 :: q1 :: q2 :: q3 :: q4 :: q5 :: q6 :: q7 :: q8 :: q9 :: q10 :: p :: l) p:= .s (.s (.s (.s (.s (.s (.s (.s (.s (.s (.s .z))))))))))
theorem Er.g11 {α:Type}{q0 q1 q2 q3 q4 q5 q6 q7 q8 q9 q10 p:α}{l:List α}:Er (q0 :: q1 :: q2 :: q3 :: q4 :: q5 :: q6 :: q7 :: q8 :: q9 :: q10 :: p :: l) p (q0 :: q1 :: q2 :: q3 :: q4 :: q5 :: q6 :: q7 :: q8 :: q9 :: q10 :: l):= .s (.s (.s (.s (.s (.s (.s (.s (.s (.s (.s .z))))))))))
theorem fP.g11 {q0 q1 q2 q3 q4 q5 q6 q7 q8 q9 q10 p:Asn}{l:List Asn}:fP (q0 :: q1 :: q2 :: q3 :: q4 :: q5 :: q6 :: q7 :: q8 :: q9 :: q10 :: p :: l) p (q0 :: q1 :: q2 :: q3 :: q4 :: q5 :: q6 :: q7 :: q8 :: q9 :: q10 :: l):= .s (.s (.s (.s (.s (.s (.s (.s (.s (.s (.s .z))))))))))
theorem Sb.g11 {q0 q1 q2 q3 q4 q5 q6 q7 q8 q9 q10:Asn}{l:List Asn}:Sb (q0 :: q1 :: q2 :: q3 :: q4 :: q5 :: q6 :: q7 :: q8 :: q9 :: q10 :: l) l:= .s (.s (.s (.s (.s (.s (.s (.s (.s (.s (.s .z))))))))))
theorem Get.g12 {α:Type}{q0 q1 q2 q3 q4 q5 q6 q7 q8 q9 q10 q11 p:α}{l:List α}:Get (q0 :: q1 :: q2 :: q3 :: q4 :: q5 :: q6 :: q7 :: q8 :: q9 :: q10 :: q11 :: p :: l) p:= .s (.s (.s (.s (.s (.s (.s (.s (.s (.s (.s (.s .z)))))))))))
theorem Er.g12 {α:Type}{q0 q1 q2 q3 q4 q5 q6 q7 q8 q9 q10 q11 p:α}{l:List α}:Er (q0 :: q1 :: q2 :: q3 :: q4 :: q5 :: q6 :: q7 :: q8 :: q9 :: q10 :: q11 :: p :: l) p (q0 :: q1 :: q2 :: q3 :: q4 :: q5 :: q6 :: q7 :: q8 :: q9 :: q10 :: q11 :: l):= .s (.s (.s (.s (.s (.s (.s (.s (.s (.s (.s (.s .z)))))))))))
theorem fP.g12 {q0 q1 q2 q3 q4 q5 q6 q7 q8 q9 q10 q11 p:Asn}{l:List Asn}:fP (q0 :: q1 :: q2 :: q3 :: q4 :: q5 :: q6 :: q7 :: q8 :: q9 :: q10 :: q11 :: p :: l) p (q0 :: q1 :: q2 :: q3 :: q4 :: q5 :: q6 :: q7 :: q8 :: q9 :: q10 :: q11 :: l):= .s (.s (.s (.s (.s (.s (.s (.s (.s (.s (.s (.s .z)))))))))))
theorem Sb.g12 {q0 q1 q2 q3 q4 q5 q6 q7 q8 q9 q10 q11:Asn}{l:List Asn}:Sb (q0 :: q1 :: q2 :: q3 :: q4 :: q5 :: q6 :: q7 :: q8 :: q9 :: q10 :: q11 :: l) l:= .s (.s (.s (.s (.s (.s (.s (.s (.s (.s (.s (.s .z)))))))))))
theorem Get.g13 {α:Type}{q0 q1 q2 q3 q4 q5 q6 q7 q8 q9 q10 q11 q12 p:α}{l:List α}:Get (q0 :: q1 :: q2 :: q3 :: q4 :: q5 :: q6 :: q7 :: q8 :: q9 :: q10 :: q11 :: q12 :: p :: l) p:= .s (.s (.s (.s (.s (.s (.s (.s (.s (.s (.s (.s (.s .z))))))))))))
theorem Er.g13 {α:Type}{q0 q1 q2 q3 q4 q5 q6 q7 q8 q9 q10 q11 q12 p:α}{l:List α}:Er (q0 :: q1 :: q2 :: q3 :: q4 :: q5 :: q6 :: q7 :: q8 :: q9 :: q10 :: q11 :: q12 :: p :: l) p (q0 :: q1 :: q2 :: q3 :: q4 :: q5 :: q6 :: q7 :: q8 :: q9 :: q10 :: q11 :: q12 :: l):= .s (.s (.s (.s (.s (.s (.s (.s (.s (.s (.s (.s (.s .z))))))))))))
theorem fP.g13 {q0 q1 q2 q3 q4 q5 q6 q7 q8 q9 q10 q11 q12 p:Asn}{l:List Asn}:fP (q0 :: q1 :: q2 :: q3 :: q4 :: q5 :: q6 :: q7 :: q8 :: q9 :: q10 :: q11 :: q12 :: p :: l) p (q0 :: q1 :: q2 :: q3 :: q4 :: q5 :: q6 :: q7 :: q8 :: q9 :: q10 :: q11 :: q12 :: l):= .s (.s (.s (.s (.s (.s (.s (.s (.s (.s (.s (.s (.s .z))))))))))))
theorem Sb.g13 {q0 q1 q2 q3 q4 q5 q6 q7 q8 q9 q10 q11 q12:Asn}{l:List Asn}:Sb (q0 :: q1 :: q2 :: q3 :: q4 :: q5 :: q6 :: q7 :: q8 :: q9 :: q10 :: q11 :: q12 :: l) l:= .s (.s (.s (.s (.s (.s (.s (.s (.s (.s (.s (.s (.s .z))))))))))))
theorem Get.g14 {α:Type}{q0 q1 q2 q3 q4 q5 q6 q7 q8 q9 q10 q11 q12 q13 p:α}{l:List α}:Get (q0 :: q1 :: q2 :: q3 :: q4 :: q5 :: q6 :: q7 :: q8 :: q9 :: q10 :: q11 :: q12 :: q13 :: p :: l) p:= .s (.s (.s (.s (.s (.s (.s (.s (.s (.s (.s (.s (.s (.s .z)))))))))))))
theorem Er.g14 {α:Type}{q0 q1 q2 q3 q4 q5 q6 q7 q8 q9 q10 q11 q12 q13 p:α}{l:List α}:Er (q0 :: q1 :: q2 :: q3 :: q4 :: q5 :: q6 :: q7 :: q8 :: q9 :: q10 :: q11 :: q12 :: q13 :: p :: l) p (q0 :: q1 :: q2 :: q3 :: q4 :: q5 :: q6 :: q7 :: q8 :: q9 :: q10 :: q11 :: q12 :: q13 :: l):= .s (.s (.s (.s (.s (.s (.s (.s (.s (.s (.s (.s (.s (.s .z)))))))))))))
theorem fP.g14 {q0 q1 q2 q3 q4 q5 q6 q7 q8 q9 q10 q11 q12 q13 p:Asn}{l:List Asn}:fP (q0 :: q1 :: q2 :: q3 :: q4 :: q5 :: q6 :: q7 :: q8 :: q9 :: q10 :: q11 :: q12 :: q13 :: p :: l) p (q0 :: q1 :: q2 :: q3 :: q4 :: q5 :: q6 :: q7 :: q8 :: q9 :: q10 :: q11 :: q12 :: q13 :: l):= .s (.s (.s (.s (.s (.s (.s (.s (.s (.s (.s (.s (.s (.s .z)))))))))))))
theorem Sb.g14 {q0 q1 q2 q3 q4 q5 q6 q7 q8 q9 q10 q11 q12 q13:Asn}{l:List Asn}:Sb (q0 :: q1 :: q2 :: q3 :: q4 :: q5 :: q6 :: q7 :: q8 :: q9 :: q10 :: q11 :: q12 :: q13 :: l) l:= .s (.s (.s (.s (.s (.s (.s (.s (.s (.s (.s (.s (.s (.s .z)))))))))))))
theorem Get.g15 {α:Type}{q0 q1 q2 q3 q4 q5 q6 q7 q8 q9 q10 q11 q12 q13 q14 p:α}{l:List α}:Get (q0 :: q1 :: q2 :: q3 :: q4 :: q5 :: q6 :: q7 :: q8 :: q9 :: q10 :: q11 :: q12 :: q13 :: q14 :: p :: l) p:= .s (.s (.s (.s (.s (.s (.s (.s (.s (.s (.s (.s (.s (.s (.s .z))))))))))))))
theorem Er.g15 {α:Type}{q0 q1 q2 q3 q4 q5 q6 q7 q8 q9 q10 q11 q12 q13 q14 p:α}{l:List α}:Er (q0 :: q1 :: q2 :: q3 :: q4 :: q5 :: q6 :: q7 :: q8 :: q9 :: q10 :: q11 :: q12 :: q13 :: q14 :: p :: l) p (q0 :: q1 :: q2 :: q3 :: q4 :: q5 :: q6 :: q7 :: q8 :: q9 :: q10 :: q11 :: q12 :: q13 :: q14 :: l):= .s (.s (.s (.s (.s (.s (.s (.s (.s (.s (.s (.s (.s (.s (.s .z))))))))))))))
theorem fP.g15 {q0 q1 q2 q3 q4 q5 q6 q7 q8 q9 q10 q11 q12 q13 q14 p:Asn}{l:List Asn}:fP (q0 :: q1 :: q2 :: q3 :: q4 :: q5 :: q6 :: q7 :: q8 :: q9 :: q10 :: q11 :: q12 :: q13 :: q14 :: p :: l) p (q0 :: q1 :: q2 :: q3 :: q4 :: q5 :: q6 :: q7 :: q8 :: q9 :: q10 :: q11 :: q12 :: q13 :: q14 :: l):= .s (.s (.s (.s (.s (.s (.s (.s (.s (.s (.s (.s (.s (.s (.s .z))))))))))))))
theorem Sb.g15 {q0 q1 q2 q3 q4 q5 q6 q7 q8 q9 q10 q11 q12 q13 q14:Asn}{l:List Asn}:Sb (q0 :: q1 :: q2 :: q3 :: q4 :: q5 :: q6 :: q7 :: q8 :: q9 :: q10 :: q11 :: q12 :: q13 :: q14 :: l) l:= .s (.s (.s (.s (.s (.s (.s (.s (.s (.s (.s (.s (.s (.s (.s .z))))))))))))))
theorem Get.g16 {α:Type}{q0 q1 q2 q3 q4 q5 q6 q7 q8 q9 q10 q11 q12 q13 q14 q15 p:α}{l:List α}:Get (q0 :: q1 :: q2 :: q3 :: q4 :: q5 :: q6 :: q7 :: q8 :: q9 :: q10 :: q11 :: q12 :: q13 :: q14 :: q15 :: p :: l) p:= .s (.s (.s (.s (.s (.s (.s (.s (.s (.s (.s (.s (.s (.s (.s (.s .z)))))))))))))))
theorem Er.g16 {α:Type}{q0 q1 q2 q3 q4 q5 q6 q7 q8 q9 q10 q11 q12 q13 q14 q15 p:α}{l:List α}:Er (q0 :: q1 :: q2 :: q3 :: q4 :: q5 :: q6 :: q7 :: q8 :: q9 :: q10 :: q11 :: q12 :: q13 :: q14 :: q15 :: p :: l) p (q0 :: q1 :: q2 :: q3 :: q4 :: q5 :: q6 :: q7 :: q8 :: q9 :: q10 :: q11 :: q12 :: q13 :: q14 :: q15 :: l):= .s (.s (.s (.s (.s (.s (.s (.s (.s (.s (.s (.s (.s (.s (.s (.s .z)))))))))))))))
theorem fP.g16 {q0 q1 q2 q3 q4 q5 q6 q7 q8 q9 q10 q11 q12 q13 q14 q15 p:Asn}{l:List Asn}:fP (q0 :: q1 :: q2 :: q3 :: q4 :: q5 :: q6 :: q7 :: q8 :: q9 :: q10 :: q11 :: q12 :: q13 :: q14 :: q15 :: p :: l) p (q0 :: q1 :: q2 :: q3 :: q4 :: q5 :: q6 :: q7 :: q8 :: q9 :: q10 :: q11 :: q12 :: q13 :: q14 :: q15 :: l):= .s (.s (.s (.s (.s (.s (.s (.s (.s (.s (.s (.s (.s (.s (.s (.s .z)))))))))))))))
theorem Sb.g16 {q0 q1 q2 q3 q4 q5 q6 q7 q8 q9 q10 q11 q12 q13 q14 q15:Asn}{l:List Asn}:Sb (q0 :: q1 :: q2 :: q3 :: q4 :: q5 :: q6 :: q7 :: q8 :: q9 :: q10 :: q11 :: q12 :: q13 :: q14 :: q15 :: l) l:= .s (.s (.s (.s (.s (.s (.s (.s (.s (.s (.s (.s (.s (.s (.s (.s .z)))))))))))))))
section
variable {N:Nat}{w0:World}{S0:Bs}{F:Act→World→Prop}{T:eZ}{l l':List Asn}{P:Program}{Q:Exit→Act→World→Prop}{o:Oper}{ops:Array Oper}{rest:List Oper}{d:Nat}
theorem aBg {v : Value} : ∀ {l : List Value} {n : Nat}, n < l.length → nI l n v (l.set n v)
  | _ :: _,0,_=> .z
  | _ :: _,n+1,h=> .s (aBg (by simpa using h))
  | [],_,h=>by simp at h
theorem aEs : ∀ {pre cs fl : List Value}, fl.length = cs.length → aAx (pre ++ fl) pre.length cs (pre ++ cs)
  | pre,[],[],_=>by simpa using aAx.n
  | pre,c :: cs,f :: fl,h=>by
    have h1:nI (pre++f :: fl) pre.length c ((pre++ [c])++fl):=by
      have:=aBg (v:=c) (l:=pre++f :: fl) (n:=pre.length) (by simp)
      simpa [List.set_append] using this
    have h2:=aEs (pre:=pre++ [c]) (cs:=cs) (fl:=fl) (by simpa using h)
    refine .c h1 ?_
    simpa using h2
  | _,[],_ :: _,h=>by simp at h
  | _,_ :: _,[],h=>by simp at h
theorem aHf {fl cs:List Value} (h:cs.length=fl.length):aAx fl 0 cs cs:=by simpa using aEs (pre:= []) h.symm
theorem qW {x:Operand}{t:TypeId}{g e sz c:Nat}{fl:List Value} (ho:o.op= .load t x) (hg:eP P t true) (hx:Val T x (.pointer (some ⟨g,0,none⟩))) (ht:fP l (cM g e sz c fl) l') (hi:(P.info? t).map (·.size)=some fl.length):eT P o T (WS w0 S0 l) (.agg fl.toArray):=
  lY ho hg hi hx (WS.r ht fun _ _ h=>h)
theorem qE {x:Operand}{t:TypeId}{B:Addr}{ecs:List Value} (ho:o.op= .load t x) (hg:eP P t true) (hx:Val T x (.pointer (some B))) (hF:FF w0 S0 B.block) (hc:∀(i:Nat) (u:Value),ecs[i]? =some u→w0.cell? (B.add i)=some u) (hi:(P.info? t).map (·.size)=some ecs.length):eT P o T (WS w0 S0 l) (.agg ecs.toArray):=
  lY ho hg hi hx (WS.ac hF hc)
theorem esW {p x:Operand}{t:TypeId}{g e sz c:Nat}{fl cs:List Value} (ho:o.op= .store t p x) (hp:Val T p (.pointer (some ⟨g,0,none⟩))) (hx:Val T x (.agg cs.toArray)) (hT:fP l (cM g e sz c fl) l') (hi:(P.info? t).map (·.size)=some cs.length) (h1:cs.all (·.oneCell')=true) (hl:Nat.beq cs.length fl.length=true):aE8 P o T w0 S0 l (cM g e sz c cs :: l'):=
  yL (off:=0) ho hi (by rw [fO];exact hp) hx (by rfl) (lZ h1) hT (by have:=Nat.eq_of_beq_eq_true hl;omega) (aHf (Nat.eq_of_beq_eq_true hl))
theorem es1 {p x : Operand} {t : TypeId} {v : Value} {g e sz c off : Nat} {fl fl' : List Value} (ho : o.op = .store t p x) (hi : (P.info? t).map (·.size) = some 1) (hp : Val T p (.pointer (some ((⟨g, 0, none⟩ : Addr).add off)))) (hx : Val T x v) (hv : v.cells.toList = [v])
    (h1:v.oneCell'=true) (hT:fP l (cM g e sz c fl) l') (hb:Nat.blt off fl.length=true) (hq:nI fl off v fl'):aE8 P o T w0 S0 l (cM g e sz c fl' :: l'):=
  yL (cs:= [v]) ho hi hp hx hv (fun u hu=>by obtain rfl:=List.mem_singleton.1 hu;exact h1) hT (Nat.le_of_ble_eq_true hb) (.c hq .n)
theorem dD {fn:Func}{s ty g e sz c:Nat}{cs:List Value} (hr:fn.results= #[.cell s ty]) (h:Get T (s,.pointer (some ⟨g,0,none⟩))) (hg:eP P ty true) (ht:fP l (cM g e sz c cs) l') (hi:(P.info? ty).map (·.size)=some cs.length):
    ∀(a:Act) (w:World),Holds T a→WS w0 S0 l w→(results fn a.tmps).run P w= .ok (.agg cs.toArray) w:=aOi hr h hg hi (WS.r ht fun _ _ h=>h)
theorem pv0:∀a:Act,Holds T a→((#[]:Array (Nat×Operand)).map fun(i,x)=>(i,a.eval x))=([]:List (Nat×Value)).toArray:=fun _ _=>by simp
theorem pv1 {i:Nat}{x:Operand}{v:Value} (h:Val T x v):∀a:Act,Holds T a→((#[(i,x)]:Array (Nat×Operand)).map fun(i,x)=>(i,a.eval x))= [(i,v)].toArray:=fun a ha=>by simp [h a ha]
theorem pv2 {i j:Nat}{x y:Operand}{v u:Value} (h:Val T x v) (k:Val T y u):∀a:Act,Holds T a→((#[(i,x),(j,y)]:Array (Nat×Operand)).map fun(i,x)=>(i,a.eval x))= [(i,v),(j,u)].toArray:=fun a ha=>by simp [h a ha,k a ha]
theorem pv3 {i j m:Nat}{x y z:Operand}{v u r:Value} (h:Val T x v) (k:Val T y u) (q:Val T z r):∀a:Act,Holds T a→((#[(i,x),(j,y),(m,z)]:Array (Nat×Operand)).map fun(i,x)=>(i,a.eval x))= [(i,v),(j,u),(m,r)].toArray:=fun a ha=>by simp [h a ha,k a ha,q a ha]
theorem pv4 {i j m n:Nat}{x y z p:Operand}{v u r s:Value} (h:Val T x v) (k:Val T y u) (q:Val T z r) (q':Val T p s):∀a:Act,Holds T a→((#[(i,x),(j,y),(m,z),(n,p)]:Array (Nat×Operand)).map fun(i,x)=>(i,a.eval x))= [(i,v),(j,u),(m,r),(n,s)].toArray:=fun a ha=>by simp [h a ha,k a ha,q a ha,q' a ha]
theorem Y.mv {s:Nat}{v:Value} (hk:okd o N T=some d) (h:Get T (s,v)) (k:Y N w0 S0 (wpList P ops Q rest) ((d,v) :: T) l) (ho:o.op= .move (.tmp s):=by exact rfl):Y N w0 S0 (wpList P ops Q (o :: rest)) T l:=Y.ql hk (aV ho (.t h)) k
theorem Y.as {s:Nat}{v:Value} (hk:okd o N T=some d) (h:Get T (s,v)) (k:Y N w0 S0 (wpList P ops Q rest) ((d,v) :: T) l) (ho:o.op= .assign (.tmp s):=by exact rfl):Y N w0 S0 (wpList P ops Q (o :: rest)) T l:=Y.ql hk (aA ho (.t h)) k
theorem Y.fa {s : Nat} {t : TypeId} {f off : Nat} {ad : Addr} (hk : okd o N T = some d) (h : Get T (s, .pointer (some ad))) (hs : ∀ (ad : Addr) (w : World), (Instr.fieldAt t (.pointer (some ad)) f).run P w = .ok (.pointer (some (ad.add off))) w)
    (k:Y N w0 S0 (wpList P ops Q rest) ((d,.pointer (some (ad.add off))) :: T) l) (ho:o.op= .fieldAddr t (.tmp s) f:=by exact rfl):Y N w0 S0 (wpList P ops Q (o :: rest)) T l:=Y.ql hk (aK ho (.t h) (hs ad)) k
theorem Y.ld {s : Nat} {t : TypeId} {g e sz c i : Nat} {fl : List Value} {v : Value} (hk : okd o N T = some d) (hg : eP P t false) (h : Get T (s, .pointer (some ((⟨g, 0, none⟩ : Addr).add i)))) (ht : fP l (cM g e sz c fl) l')
    (k:Y N w0 S0 (wpList P ops Q rest) ((d,v) :: T) l) (ho:o.op= .load t (.tmp s):=by exact rfl) (hv:fl[i]? =some v:=by exact rfl):Y N w0 S0 (wpList P ops Q (o :: rest)) T l:=Y.ql hk (aL ho hg (.t h) (WS.g ht hv)) k
theorem Y.le {s : Nat} {t : TypeId} {B : Addr} {ecs : List Value} {i : Nat} {v : Value} (hk : okd o N T = some d) (hg : eP P t false) (h : Get T (s, .pointer (some (B.add i)))) (hF : FF w0 S0 B.block) (hc : ∀ (i : Nat) (u : Value), ecs[i]? = some u → w0.cell? (B.add i) = some u)
    (k:Y N w0 S0 (wpList P ops Q rest) ((d,v) :: T) l) (ho:o.op= .load t (.tmp s):=by exact rfl) (hv:ecs[i]? =some v:=by exact rfl):Y N w0 S0 (wpList P ops Q (o :: rest)) T l:=Y.ql hk (aL ho hg (.t h) (WS.el hF hc hv)) k
theorem xI {d:Nat} (h:okd o N T=some d):o.guard=none∧o.dst=some d∧d<N∧pQ d T=true:=by
  unfold okd at h
  cases hd:o.dst with
  | none=>rw [hd] at h;cases h
  | some d'=>
    rw [hd] at h
    simp only at h
    cases hc:(o.guard.isNone && Nat.blt d' N && pQ d' T) with
    | false=>rw [hc] at h;cases h
    | true=>
      rw [hc] at h
      obtain rfl:=Option.some.inj h
      simp only [Bool.and_eq_true,Option.isNone_iff_eq_none] at hc
      exact⟨hc.1.1,rfl,Nat.le_of_ble_eq_true hc.1.2,hc.2⟩
theorem Y.cl {f : FuncId} {fn : Func} {as_ : Array Operand} {ts : Array TypeId} {args : Array Value} {lc lr : List Asn} {R : Value → List Asn → Prop} (hk : okd o N T = some d) (ho : o.op = .call { callee := .value (.func f), args := as_, argTypes := ts }) (hf : P.funcs[f]? = some fn) (hb : fn.body.isSome = true) (hn : (fn.name == "runtime.NumGoroutine") = false)
    (ha:∀a:Act,Holds T a→as_.map a.eval=args) (hT:kD l lc lr) (ht:∀w S1,cB lc w S1→Tr w0 S0 w S1 lr→Calls P f args w (aJ w S1 R)) (h:∀v l',R v l'→Y N w0 S0 (wpList P ops Q rest) ((d,v) :: T) (l'++lr)):Y N w0 S0 (wpList P ops Q (o :: rest)) T l:=by
  obtain⟨h1,h2,h3,h4⟩:=xI hk
  exact Y.call (aD h1) h2 h3 h4 (bS ho hf hb hn ha) hT ht h
theorem Y.el {R:Value→List Asn→Prop} (hk:okd o N T=some d) (he:Eff P o T w0 S0 l R) (h:∀v l',R v l'→Y N w0 S0 (wpList P ops Q rest) ((d,v) :: T) l'):Y N w0 S0 (wpList P ops Q (o :: rest)) T l:=by
  obtain⟨h1,h2,h3,h4⟩:=xI hk
  exact Y.e (aD h1) h2 h3 h4 he h
theorem Y.dk {K : Act → World → Prop} {last i : Nat} {lk : List Asn} {r : List (Nat × Bool)} {v : Value} (ho : ops[i]? = some o) (hk : okd o N T = some d) (hs : Sb l lk) (hq : eT P o T (WS w0 S0 lk) v)
    (h:Y N w0 S0 (iS P ops (NoPanic Q) (WS w0 S0 lk) last K r) ((d,v) :: T) l):Y N w0 S0 (iS P ops (NoPanic Q) (WS w0 S0 lk) last K ((i,true) :: r)) T l:=by
  obtain⟨h1,h2,h3,h4⟩:=xI hk
  exact Y.dq ho h1 h2 h3 h4 hs hq h
theorem Y.dm {K:Act→World→Prop}{last i:Nat}{lk:List Asn}{r:List (Nat×Bool)}{s:Nat}{v:Value} (hi:ops[i]? =some o) (hk:okd o N T=some d) (hs:Sb l lk) (h:Get T (s,v)) (k:Y N w0 S0 (iS P ops (NoPanic Q) (WS w0 S0 lk) last K r) ((d,v) :: T) l) (ho:o.op= .move (.tmp s):=by exact rfl):Y N w0 S0 (iS P ops (NoPanic Q) (WS w0 S0 lk) last K ((i,true) :: r)) T l:=Y.dk hi hk hs (aV ho (.t h)) k
theorem Y.df {K : Act → World → Prop} {last i : Nat} {lk : List Asn} {r : List (Nat × Bool)} {s : Nat} {t : TypeId} {f off : Nat} {ad : Addr} (hi : ops[i]? = some o) (hk : okd o N T = some d) (hs : Sb l lk) (h : Get T (s, .pointer (some ad))) (hf : ∀ (ad : Addr) (w : World), (Instr.fieldAt t (.pointer (some ad)) f).run P w = .ok (.pointer (some (ad.add off))) w)
    (k:Y N w0 S0 (iS P ops (NoPanic Q) (WS w0 S0 lk) last K r) ((d,.pointer (some (ad.add off))) :: T) l) (ho:o.op= .fieldAddr t (.tmp s) f:=by exact rfl):Y N w0 S0 (iS P ops (NoPanic Q) (WS w0 S0 lk) last K ((i,true) :: r)) T l:=Y.dk hi hk hs (aK ho (.t h) (hf ad)) k
theorem Y.dl {K : Act → World → Prop} {last i : Nat} {lk : List Asn} {r : List (Nat × Bool)} {s : Nat} {t : TypeId} {g e sz c j : Nat} {fl : List Value} {v : Value} {lr : List Asn} (hi : ops[i]? = some o) (hk : okd o N T = some d) (hs : Sb l lk) (hg : eP P t false) (h : Get T (s, .pointer (some ((⟨g, 0, none⟩ : Addr).add j)))) (ht : fP lk (cM g e sz c fl) lr)
    (k:Y N w0 S0 (iS P ops (NoPanic Q) (WS w0 S0 lk) last K r) ((d,v) :: T) l) (ho:o.op= .load t (.tmp s):=by exact rfl) (hv:fl[j]? =some v:=by exact rfl):Y N w0 S0 (iS P ops (NoPanic Q) (WS w0 S0 lk) last K ((i,true) :: r)) T l:=Y.dk hi hk hs (aL ho hg (.t h) (WS.g ht hv)) k
theorem Y.de {K : Act → World → Prop} {last i : Nat} {lk : List Asn} {r : List (Nat × Bool)} {s : Nat} {t : TypeId} {B : Addr} {ecs : List Value} {j : Nat} {v : Value} (hi : ops[i]? = some o) (hk : okd o N T = some d) (hs : Sb l lk) (hg : eP P t false) (h : Get T (s, .pointer (some (B.add j)))) (hF : FF w0 S0 B.block) (hc : ∀ (i : Nat) (u : Value), ecs[i]? = some u → w0.cell? (B.add i) = some u)
    (k:Y N w0 S0 (iS P ops (NoPanic Q) (WS w0 S0 lk) last K r) ((d,v) :: T) l) (ho:o.op= .load t (.tmp s):=by exact rfl) (hv:ecs[j]? =some v:=by exact rfl):Y N w0 S0 (iS P ops (NoPanic Q) (WS w0 S0 lk) last K ((i,true) :: r)) T l:=Y.dk hi hk hs (aL ho hg (.t h) (WS.el hF hc hv)) k
theorem Y.dn {K:Act→World→Prop}{last i:Nat}{lk:List Asn}{r:List (Nat×Bool)}{s:Nat}{ad:Addr} (hi:ops[i]? =some o) (hk:okd o N T=some d) (hs:Sb l lk) (h:Get T (s,.pointer (some ad))) (k:Y N w0 S0 (iS P ops (NoPanic Q) (WS w0 S0 lk) last K r) ((d,.pointer (some ad)) :: T) l) (ho:o.op= .nilCheck (.tmp s):=by exact rfl):Y N w0 S0 (iS P ops (NoPanic Q) (WS w0 S0 lk) last K ((i,true) :: r)) T l:=Y.dk hi hk hs (eB ho (.t h)) k
theorem Y.nc {s:Nat}{ad:Addr} (hk:okd o N T=some d) (h:Get T (s,.pointer (some ad))) (k:Y N w0 S0 (wpList P ops Q rest) ((d,.pointer (some ad)) :: T) l) (ho:o.op= .nilCheck (.tmp s):=by exact rfl):Y N w0 S0 (wpList P ops Q (o :: rest)) T l:=Y.ql hk (eB ho (.t h)) k
theorem Y.nt {K:Act→World→Prop} (h:Y N w0 S0 K T l):Y N w0 S0 (wpList P ops (Exit.then K Q) []) T l:=Y.nil (Y.g h)
def qs (i n:Nat):List (Nat×Bool):=(List.range n).map fun k=>(i+k,true)
theorem Y.qg {j t:Nat}{b:Bool}{v:Value} (hg:o.guard=some (j,b)) (hj:(ops[j]?).bind (·.dst)=some t) (ht:Get T (t,.bool b)) (hd:o.dst=some d) (hN:Nat.blt d N=true) (hf:pQ d T=true) (hq:eT P o T (WS w0 S0 l) v) (h:Y N w0 S0 (wpList P ops Q rest) ((d,v) :: T) l):Y N w0 S0 (wpList P ops Q (o :: rest)) T l:=
  Y.q (fU hg hj ht) hd (Nat.le_of_ble_eq_true hN) hf hq h
theorem Y.dr {lk : List Asn} {id : Nat} {os : List Oper} (hl : Sb l lk) (last : Nat) (hm : P.follows .mixedOrders = true)
    (h:Y N w0 S0 (wpL P .any os.toArray (NoPanic Q) (WS w0 S0 lk) last os.length (Array.replicate os.length false)) T l):Y N w0 S0 ((Code.region id os.toArray true).wp P Q) T l:=Y.a0 lk last hm h
def aJs (sch:List (Nat×Bool)) (a:Array Bool):Array Bool:=sch.foldl (fun a p=>a.setIfInBounds p.1 true) a
theorem Y.sc {last : Nat} {lk : List Asn} {md : Region.Mode} (sch : List (Nat × Bool)) {m : Nat} {listed : Array Bool} (hc : (Nat.ble sch.length m && aKp md ops last sch listed (aJs sch listed)) = true)
    (h:Y N w0 S0 (iS P ops (NoPanic Q) (WS w0 S0 lk) last (wpL P md ops (NoPanic Q) (WS w0 S0 lk) last (m - sch.length) (aJs sch listed)) sch) T l):Y N w0 S0 (wpL P md ops (NoPanic Q) (WS w0 S0 lk) last m listed) T l:=by
  simp only [Bool.and_eq_true] at hc
  exact Y.av sch (m - sch.length) _ (by have:=Nat.le_of_ble_eq_true hc.1;omega) hc.2 h
end
theorem Y.ay {N : Nat} {w0 : World} {S0 : Bs} {T : eZ} {l : List Asn} {P : Program} {Q : Exit → Act → World → Prop} {x y : Code} {γ : Type} (Tm : γ → eZ) (lm : γ → List Asn) (φ : γ → Prop)
    (hx:Y N w0 S0 (x.wp P (Exit.then (fun a w=>a.defers= []∧a.tmps.size=N∧∃g',φ g'∧Holds (Tm g') a∧WS w0 S0 (lm g') w) Q)) T l) (hy:∀g,φ g→Y N w0 S0 (y.wp P Q) (Tm g) (lm g)):Y N w0 S0 ((Code.seq x y).wp P Q) T l:=by
  refine Y.seq fun a w h1 h2 h3 h4=> ?_
  refine Code.wp_mono (fun e a' w' h=> ?_) (hx a w h1 h2 h3 h4)
  cases e with
  | normal=>obtain⟨k1,k2,g,hg,k3,k4⟩:=h;exact hy g hg a' w' k1 k2 k3 k4
  | exit id=>exact h
  | goto l=>exact h
  | ret=>exact h
  | panic ch=>exact h
  | outgrown=>exact h
theorem Y.aq {N:Nat}{w0:World}{S0:Bs}{T:eZ}{l:List Asn}{Q:Exit→Act→World→Prop}{γ:Type}{Tm:γ→eZ}{lm:γ→List Asn}{φ:γ→Prop} (g':γ) (hg:φ g') (hT:Sub T (Tm g')) (hl:∀w,WS w0 S0 l w→WS w0 S0 (lm g') w):
    Y N w0 S0 (Exit.then (fun a w=>a.defers= []∧a.tmps.size=N∧∃g',φ g'∧Holds (Tm g') a∧WS w0 S0 (lm g') w) Q .normal) T l:=
  fun _ w h1 h2 h3 h4=>⟨h1,h2,g',hg,hT.holds h3,hl w h4⟩
end Go.Proofs.YtmejbfmhaoilmaaGreat
/- What is proved: the disk, as plain functions on data, and when each answer comes. No condition. -/
namespace Go.Proofs.YtmejbfmhaoilmaaGreat
set_option linter.unusedVariables false
set_option linter.unusedSimpArgs false
def pC {α : Type} (f : α → Int) : List α → Int
  | []=>0
  | x :: xs=>if f x=0 then pC f xs else f x
theorem vW {α:Type}{f:α→Int}{xs:List α} (h:∀(j:Nat) x,xs[j]? =some x→f x=0):pC f xs=0:=by
  induction xs with
  | nil=>rfl
  | cons x xs ih=>
    simp only [pC,h 0 x rfl,if_true]
    exact ih (fun j y hy=>h (j+1) y hy)
theorem rG {α : Type} {f : α → Int} : ∀ {xs : List α} {k : Nat} {x : α}, xs[k]? = some x → f x ≠ 0 → (∀ j y, j < k → xs[j]? = some y → f y = 0) → pC f xs = f x
  | [],k,x,h,_,_=>by simp at h
  | y :: xs,0,x,h,hn,_=>by
    simp at h;subst h
    simp only [pC,if_neg hn]
  | y :: xs,k+1,x,h,hn,ha=>by
    simp only [pC,ha 0 y (by omega) rfl,if_true]
    exact rG (by simpa using h) hn (fun j z hj hz=>ha (j+1) z (by omega) (by simpa using hz))
theorem xP {α:Type} (p:α→Bool) (xs:List α):decide (0≤eS p xs)=xs.any p:=by
  unfold eS
  cases h:xs.findIdx? p with
  | none=>
    have:xs.any p=false:=by rw [List.any_eq_false];intro x hx;have:=List.findIdx?_eq_none_iff.1 h x hx;simp [this]
    rw [this];rfl
  | some i=>
    have:xs.any p=true:=by
      rw [List.any_eq_true]
      obtain⟨hi,hp,_⟩:=List.findIdx?_eq_some_iff_getElem.1 h
      exact⟨_,List.getElem_mem hi,hp⟩
    rw [this];simp
abbrev bR (n:Nat) (at_:Int):Prop:=0≤at_∧at_≤(n:Int) - 1
theorem jX {α:Type}{xs:List α}{k:Nat}{x:α} (h:xs[k]? =some x):xs.take k++ [x]=xs.take (k+1):=by
  rw [List.take_add_one,h];rfl
def aJ5 (n:Nat) (e:aK9):Prop:=(1≤e.key∧e.key≤9999)∧(0≤e.frm∧e.frm≤n)∧(1≤e.cnt∧e.cnt≤n)∧e.frm+e.cnt≤n
instance (n:Nat) (e:aK9):Decidable (aJ5 n e):=by unfold aJ5;infer_instance
abbrev aNo (a:Int) (e:aK9):Prop:=e.frm≤a∧a≤e.frm+e.cnt - 1
theorem tH {α : Type} {f : α → Int} : ∀ {xs : List α}, pC f xs = 0 → ∀ x, x ∈ xs → f x = 0
  | [],_,x,hx=>by cases hx
  | y :: xs,h,x,hx=>by
    unfold pC at h
    by_cases hy:f y=0
    · rw [if_pos hy] at h
      rcases List.mem_cons.1 hx with rfl | hx
      · exact hy
      · exact tH h x hx
    · rw [if_neg hy] at h;exact absurd h hy
end Go.Proofs.YtmejbfmhaoilmaaGreat
/- What is proved: names, inodes and their faults, in plain Lean. No condition. -/
namespace Go.Proofs.YtmejbfmhaoilmaaGreat
open Go Go.RowKit
set_option linter.unusedVariables false
set_option linter.unusedSimpArgs false
abbrev wE (b:UInt8):Prop:=(97:Int)≤(b.toNat:Int)∧(b.toNat:Int)≤122
def cD (s:ByteArray):Int:=if s.data.toList.all (fun b=>decide (wE b))=true then(if s.size=0 then 5 else if 4<s.size then 2 else 0)else 5
theorem oR {s:ByteArray}{k:Nat}{b:UInt8} (hb:s.data.toList[k]? =some b) (h:¬wE b):cD s=5:=by
  unfold cD
  rw [if_neg]
  intro ha
  exact h (of_decide_eq_true (List.all_eq_true.1 ha b (List.mem_of_getElem? hb)))
theorem aE0 {s:ByteArray} (h:∀j b,j<s.size→s.data.toList[j]? =some b→wE b):s.data.toList.all (fun b=>decide (wE b))=true:=
  List.all_eq_true.2 fun b hb=>by
    obtain⟨j,hj⟩:=List.mem_iff_getElem?.1 hb
    exact decide_eq_true (h j b (by have:=(List.getElem?_eq_some_iff.1 hj).1;rw [mV] at this;exact this) hj)
theorem aE1 {s:ByteArray} (h:¬s=⟨#[]⟩):¬s.size=0:=fun h0=>h (by
  cases s with
  | mk d => have : d.size = 0 := h0
            rw [Array.size_eq_zero_iff] at this
            rw [this])
theorem iJ {s:ByteArray} (h:s=⟨#[]⟩):cD s=5:=by
  subst h
  decide
theorem iF {s:ByteArray} (hall:∀j b,j<s.size→s.data.toList[j]? =some b→wE b) (h:¬s=⟨#[]⟩) (h4:(4:Int)<(s.size:Int)):cD s=2:=by
  unfold cD
  rw [if_pos (aE0 hall),if_neg (aE1 h),if_pos (by omega)]
theorem iK {s:ByteArray} (hall:∀j b,j<s.size→s.data.toList[j]? =some b→wE b) (h:¬s=⟨#[]⟩) (h4:¬(4:Int)<(s.size:Int)):cD s=0:=by
  unfold cD
  rw [if_pos (aE0 hall),if_neg (aE1 h),if_neg (by omega)]
theorem rV {s:ByteArray} (h:cD s=0):s.size≤4∧0<s.size:=by
  unfold cD at h
  split at h
  · split at h
    · exact absurd h (by decide)
    · split at h
      · exact absurd h (by decide)
      · omega
  · exact absurd h (by decide)
theorem aGd : ∀ x y : List UInt8, (Op.bytesLess x y || decide (x = y)) = !Op.bytesLess y x
  | [],[]=>by simp [Op.bytesLess]
  | [],b :: y=>by simp [Op.bytesLess]
  | a :: x,[]=>by simp [Op.bytesLess]
  | a :: x,b :: y=>by
    have ih:=aGd x y
    simp only [Op.bytesLess,List.cons.injEq]
    by_cases h:a=b
    · subst h
      have:¬a<a:=UInt8.lt_irrefl a
      simp [this] at ih ⊢
      exact ih
    · have h' : ¬ b = a := fun e => h e.symm
      simp [h,h']
      rcases UInt8.lt_or_lt_of_ne h with g | g
      · have : ¬ b < a := UInt8.lt_asymm g
        simp [g,this,UInt8.le_of_lt g]
        exact .inl h'
      · have : ¬ a < b := UInt8.lt_asymm g
        simp [g,this]
        exact fun e=>absurd e h
theorem toList_inj {s u:ByteArray}:s.toList=u.toList↔s=u:=by
  constructor
  · intro h
    have h2:s.data.toList=u.data.toList:=by simpa [ByteArray.toList_eq] using h
    cases s;cases u
    simp at h2
    rw [h2]
  · rintro rfl;rfl
theorem qJ (s u:ByteArray):(sLt s u || decide (s=u))= !sLt u s:=by
  have:=aGd s.toList u.toList
  unfold sLt
  rw [←this]
  congr 1
  rw [decide_eq_decide]
  exact toList_inj.symm
def fW (x:aF):Int:=
  if (1 ≤ x.links ∧ x.links ≤ 60) ∧ (0 ≤ x.size ∧ x.size ≤ 32) then
    if (x.blocks.length : Int) = (x.size + 7) / 8 then
      if x.blocks.any (fun b=> !decide (0≤b∧b≤19))=true then 3 else if x.blocks.Nodup then 0 else 7
    else 1
  else 3
theorem dG {x:aF} (h:¬((1≤x.links∧x.links≤60)∧(0≤x.size∧x.size≤32))):fW x=3:=if_neg h
theorem dE {x:aF} (h:(1≤x.links∧x.links≤60)∧(0≤x.size∧x.size≤32)) (h2:¬(x.blocks.length:Int)=(x.size+7) / 8):fW x=1:=by
  unfold fW;rw [if_pos h,if_neg h2]
theorem dK {x:aF} (h:(1≤x.links∧x.links≤60)∧(0≤x.size∧x.size≤32)) (h2:(x.blocks.length:Int)=(x.size+7) / 8) (h3:x.blocks.any (fun b=> !decide (0≤b∧b≤19))=true):fW x=3:=by
  unfold fW;rw [if_pos h,if_pos h2,if_pos h3]
theorem wC {x:aF} (h:(1≤x.links∧x.links≤60)∧(0≤x.size∧x.size≤32)) (h2:(x.blocks.length:Int)=(x.size+7) / 8) (h3:x.blocks.any (fun b=> !decide (0≤b∧b≤19))=false) (h4:¬x.blocks.Nodup):fW x=7:=by
  unfold fW;rw [if_pos h,if_pos h2,if_neg (by rw [h3];decide),if_neg h4]
theorem dF {x:aF} (h:(1≤x.links∧x.links≤60)∧(0≤x.size∧x.size≤32)) (h2:(x.blocks.length:Int)=(x.size+7) / 8) (h3:x.blocks.any (fun b=> !decide (0≤b∧b≤19))=false) (h4:x.blocks.Nodup):fW x=0:=by
  unfold fW;rw [if_pos h,if_pos h2,if_neg (by rw [h3];decide),if_pos h4]
theorem aDz {α:Type}{xs:List α}{k:Nat}{b:α} (h:(xs.take k).Nodup) (hb:xs[k]? =some b) (hn:¬b∈xs.take k):(xs.take (k+1)).Nodup:=by
  rw [←jX hb]
  exact List.nodup_append.2 ⟨h,by simp,fun a ha c hc=>by
    obtain rfl:=List.mem_singleton.1 hc
    exact fun e=>hn (e ▸ ha)⟩
theorem zY {α:Type}{xs:List α}{k:Nat}{b:α} (hb:xs[k]? =some b) (hm:b∈xs.take k):¬xs.Nodup:=fun h=>by
  have:(xs.take (k+1)).Nodup:=h.sublist (List.take_sublist _ _)
  rw [←jX hb] at this
  exact(List.nodup_append.1 this).2.2 b hm b (List.mem_singleton.2 rfl) rfl
theorem aCh {α:Type}{xs:List α}{k q:Nat}{b:α} (hb:xs[q]? =some b) (h:q<k):b∈xs.take k:=by
  refine List.mem_of_getElem? (i:=q) ?_
  rw [List.getElem?_take,if_pos h]
  exact hb
theorem uH {α:Type}{xs:List α}{k:Nat}{b:α} (h:∀j y,j<k→xs[j]? =some y→¬y=b):¬b∈xs.take k:=fun hm=>by
  obtain⟨j,hj⟩:=List.mem_iff_getElem?.1 hm
  rw [List.getElem?_take] at hj
  split at hj
  · rename_i hlt;exact h j b hlt hj rfl
  · cases hj
theorem aEb {xs:List Int}{k:Nat}{b:Int} (hb:xs[k]? =some b) (h:¬(0≤b∧b≤19)):xs.any (fun b=> !decide (0≤b∧b≤19))=true:=
  List.any_eq_true.2 ⟨b,List.mem_of_getElem? hb,by simp only [decide_eq_false h];rfl⟩
theorem pD {xs:List Int} (h:∀j b,j<xs.length→xs[j]? =some b→0≤b∧b≤19):xs.any (fun b=> !decide (0≤b∧b≤19))=false:=by
  rw [List.any_eq_false]
  intro b hb
  obtain⟨j,hj⟩:=List.mem_iff_getElem?.1 hb
  rw [decide_eq_true (h j b (List.getElem?_eq_some_iff.1 hj).1 hj)]
  decide
def iV (xs:List Int):Int:=if 20<xs.length then 2 else if xs.any (fun b=> !decide (0≤b∧b≤19))=true then 3 else 0
theorem rW {xs:List Int} (h:(20:Int)<(xs.length:Int)):iV xs=2:=if_pos (by omega)
theorem rU {xs:List Int} (h:¬(20:Int)<(xs.length:Int)) (h2:xs.any (fun b=> !decide (0≤b∧b≤19))=true):iV xs=3:=by unfold iV;rw [if_neg (by omega),if_pos h2]
theorem lO {xs:List Int} (h:¬(20:Int)<(xs.length:Int)) (h2:xs.any (fun b=> !decide (0≤b∧b≤19))=false):iV xs=0:=by unfold iV;rw [if_neg (by omega),if_neg (by rw [h2];decide)]
def nM (es:List aQ) (j:Nat) (e:aQ):Int:=
  if cD e.name=0 then if 0≤e.ino∧e.ino≤9 then(match (if j=0 then none else es[j - 1]?) with | some p=>if sLt p.name e.name=true then 0 else 1 | none=>0)else 3 else cD e.name
def nY (es:List aQ) (j:Nat):Int:=match es[j]? with | some e=>nM es j e | none=>0
def aA6 (f:Nat→Int) (n:Nat):Int:=pC f (List.range n)
theorem vU {f:Nat→Int}{n k:Nat} (hk:k<n) (h:¬f k=0) (ha:∀j,j<k→f j=0):aA6 f n=f k:=
  rG (k:=k) (x:=k) (by simp [hk]) h (fun j y hj hy=>by
    have:j<n:=by omega
    simp [this] at hy
    subst hy
    exact ha j hj)
theorem aCc {f:Nat→Int}{n:Nat} (ha:∀j,j<n→f j=0):aA6 f n=0:=
  vW (fun j y hy=>by
    have:=(List.getElem?_eq_some_iff.1 hy)
    obtain⟨h1,h2⟩:=this
    simp at h1 h2
    subst h2
    exact ha j h1)
def iP (x:aF):Int:=if 6<x.ents.length then 2 else aA6 (nY x.ents) x.ents.length
theorem jC {x:aF} (h:(6:Int)<(x.ents.length:Int)):iP x=2:=if_pos (by omega)
theorem gL {x:aF}{k:Nat}{e:aQ} (h:¬(6:Int)<(x.ents.length:Int)) (he:x.ents[k]? =some e) (hn:¬nM x.ents k e=0) (ha:∀j,j<k→nY x.ents j=0):iP x=nM x.ents k e:=by
  have e1:nY x.ents k=nM x.ents k e:=by unfold nY;rw [he]
  unfold iP
  rw [if_neg (by omega),vU (List.getElem?_eq_some_iff.1 he).1 (by rw [e1];exact hn) ha,e1]
theorem gZ {x:aF} (h:¬(6:Int)<(x.ents.length:Int)) (ha:∀j,j<x.ents.length→nY x.ents j=0):iP x=0:=by
  unfold iP;rw [if_neg (by omega),aCc ha]
theorem kX {es:List aQ}{j:Nat}{e:aQ} (h:¬cD e.name=0):nM es j e=cD e.name:=if_neg h
theorem kY {es:List aQ}{j:Nat}{e:aQ} (h:cD e.name=0) (h2:¬(0≤e.ino∧e.ino≤9)):nM es j e=3:=by unfold nM;rw [if_pos h,if_neg h2]
theorem wL {es:List aQ}{j:Nat}{e p:aQ} (h:cD e.name=0) (h2:0≤e.ino∧e.ino≤9) (hj:0<j) (hp:es[j - 1]? =some p) (hl:sLt p.name e.name=false):nM es j e=1:=by
  unfold nM;rw [if_pos h,if_pos h2,if_neg (by omega),hp];simp [hl]
theorem aAp {es:List aQ}{j:Nat}{e p:aQ} (h:cD e.name=0) (h2:0≤e.ino∧e.ino≤9) (hj:0<j) (hp:es[j - 1]? =some p) (hl:sLt p.name e.name=true):nM es j e=0:=by
  unfold nM;rw [if_pos h,if_pos h2,if_neg (by omega),hp];simp [hl]
theorem qL {es:List aQ}{j:Nat}{e:aQ} (h:cD e.name=0) (h2:0≤e.ino∧e.ino≤9) (hj:j=0):nM es j e=0:=by
  unfold nM;rw [if_pos h,if_pos h2,if_pos hj]
theorem wR {es:List aQ}{k:Nat}{e:aQ} (ha:∀j,j<k→nY es j=0) (he:es[k]? =some e) (h:nM es k e=0):∀j,j<k+1→nY es j=0:=fun j hj=>by
  by_cases hk:j<k
  · exact ha j hk
  · obtain rfl : j = k := by omega
    unfold nY;rw [he];exact h
def bV (x:aF):Int:=
  if 0 ≤ x.kind ∧ x.kind ≤ 2 then
    if(x.kind≠1∧¬(x.links=0∧x.size=0∧x.blocks.length=0))∨(x.kind≠2∧¬x.ents.length=0)then 1
    else if x.kind=1 then fW x else if x.kind=2 then iP x else 0
  else 1
theorem cR {x:aF} (h:¬(0≤x.kind∧x.kind≤2)):bV x=1:=if_neg h
theorem cS {x:aF} (h:(x.kind≠1∧¬(x.links=0∧x.size=0∧x.blocks.length=0))∨(x.kind≠2∧¬x.ents.length=0)):bV x=1:=by
  unfold bV
  by_cases hk:0≤x.kind∧x.kind≤2
  · rw [if_pos hk,if_pos h]
  · rw [if_neg hk]
theorem cL {x:aF} (h:x.kind=1) (h2:x.ents.length=0):bV x=fW x:=by
  unfold bV;rw [if_pos (by omega),if_neg (by omega),if_pos h]
theorem cJ {x:aF} (h:x.kind=2) (h2:x.links=0∧x.size=0∧x.blocks.length=0):bV x=iP x:=by
  unfold bV;rw [if_pos (by omega),if_neg (by omega),if_neg (by omega),if_pos h]
theorem cO {x:aF} (h:x.kind=0) (h2:x.links=0∧x.size=0∧x.blocks.length=0) (h3:x.ents.length=0):bV x=0:=by
  unfold bV;rw [if_pos (by omega),if_neg (by omega),if_neg (by omega),if_neg (by omega)]
theorem cT {x:aF} (h:0≤x.kind∧x.kind≤2) (h1:¬x.kind=1) (h2:x.links=0∧x.size=0∧x.blocks.length=0) (h3:x.kind=2∨x.ents.length=0):bV x=iP x:=by
  by_cases hk:x.kind=2
  · exact cJ hk h2
  · rw [cO (by omega) h2 (by omega)]
    exact(gZ (by omega) (fun j hj=>by omega)).symm
def bJ (xs:List aF):Int:=if 10<xs.length then 2 else pC bV xs
theorem jZ {xs:List aF} (h:(10:Int)<(xs.length:Int)):bJ xs=2:=if_pos (by omega)
theorem sQ {xs:List aF}{k:Nat}{x:aF} (h:¬(10:Int)<(xs.length:Int)) (hx:xs[k]? =some x) (hn:¬bV x=0) (ha:∀j y,j<k→xs[j]? =some y→bV y=0):bJ xs=bV x:=by
  unfold bJ;rw [if_neg (by omega),rG hx hn ha]
theorem iI {xs:List aF} (h:¬(10:Int)<(xs.length:Int)) (ha:∀j y,j<xs.length→xs[j]? =some y→bV y=0):bJ xs=0:=by
  unfold bJ;rw [if_neg (by omega),vW (fun j y hy=>ha j y (List.getElem?_eq_some_iff.1 hy).1 hy)]
theorem pW {xs:List aF} (h:bJ xs=0):xs.length≤10:=by
  unfold bJ at h
  split at h
  · exact absurd h (by decide)
  · omega
theorem dT {xs:List aF} (h:bJ xs=0):∀x,x∈xs→bV x=0:=by
  unfold bJ at h
  split at h
  · exact absurd h (by decide)
  · exact tH h
theorem aC9 {x:aF} (h:bV x=0):x.ents.length≤6:=by
  unfold bV at h
  split at h
  · split at h
    · exact absurd h (by decide)
    · split at h
      · omega
      · split at h
        · unfold iP at h
          split at h
          · exact absurd h (by decide)
          · omega
        · omega
  · exact absurd h (by decide)
def lJ (a:Int) (e:aQ):Nat:=if e.ino=a then 1 else 0
def gB (a:Int) (x:aF):Nat:=fQ (lJ a) x.ents
def eL (xs:List aF) (a:Int):Nat:=fQ (gB a) xs
theorem tV {α : Type} {f : α → Nat} {B : Nat} : ∀ {xs : List α}, (∀ x, x ∈ xs → f x ≤ B) → fQ f xs ≤ xs.length * B
  | [],_=>Nat.zero_le _
  | x :: xs,h=>by
    have h1:=h x List.mem_cons_self
    have h2:=tV (xs:=xs) (fun y hy=>h y (List.mem_cons_of_mem _ hy))
    simp only [fQ,List.length_cons,Nat.succ_mul]
    omega
theorem aK0 (a:Int) (e:aQ):lJ a e≤1:=by unfold lJ;split <;> omega
theorem pH {xs:List aF} (h:bJ xs=0) (a:Int):eL xs a≤60:=by
  have h1:eL xs a≤xs.length * 6:=tV fun x hx=>by
    have h2:gB a x≤x.ents.length * 1:=tV fun e _=>aK0 a e
    have h3:=aC9 (dT h x hx)
    omega
  have:=pW h
  omega
def lD (xs:List aF) (a:Int):aGz:=if bJ xs=0 then if bR xs.length a then⟨0,eL xs a⟩else⟨3,0⟩else⟨bJ xs,0⟩
theorem yD {xs:List aF}{a:Int} (h:¬bJ xs=0):lD xs a=⟨bJ xs,0⟩:=if_neg h
theorem wZ {xs:List aF}{a:Int} (h:bJ xs=0) (h2:¬bR xs.length a):lD xs a=⟨3,0⟩:=by unfold lD;rw [if_pos h,if_neg h2]
theorem pM {xs:List aF}{a:Int} (h:bJ xs=0) (h2:bR xs.length a):lD xs a=⟨0,eL xs a⟩:=by unfold lD;rw [if_pos h,if_pos h2]
def dH (xs:List aF):Int:=match xs.findIdx? (fun x=>decide (x.kind=0)) with | some i=>i | none=>if xs.length=10 then -1 else xs.length
theorem aIf {xs:List aF}{k:Nat}{x:aF} (hx:xs[k]? =some x) (h:x.kind=0) (ha:∀j y,j<k→xs[j]? =some y→¬y.kind=0):dH xs=(k:Int):=by
  have:xs.findIdx? (fun x=>decide (x.kind=0))=some k:=by
    obtain⟨hk,rfl⟩:=List.getElem?_eq_some_iff.1 hx
    exact List.findIdx?_eq_some_iff_getElem.2 ⟨hk,decide_eq_true h,fun j hj=>by
      have:=ha j _ hj (List.getElem?_eq_getElem (by omega))
      simpa using this⟩
  unfold dH
  rw [this]
theorem zF {xs:List aF}{q:Nat} (hq:xs.length≤q) (ha:∀j y,j<q→xs[j]? =some y→¬y.kind=0):xs.findIdx? (fun x=>decide (x.kind=0))=none:=by
  rw [List.findIdx?_eq_none_iff]
  intro y hy
  obtain⟨j,hj⟩:=List.mem_iff_getElem?.1 hy
  have:=ha j y (by have:=(List.getElem?_eq_some_iff.1 hj).1;omega) hj
  simpa using this
theorem xD {xs:List aF}{q:Nat} (hq:xs.length≤q) (ha:∀j y,j<q→xs[j]? =some y→¬y.kind=0) (h:(xs.length:Int)<10):dH xs=(xs.length:Int):=by
  unfold dH;rw [zF hq ha];simp only;rw [if_neg (by omega)]
theorem xH {xs:List aF}{q:Nat} (hq:xs.length≤q) (ha:∀j y,j<q→xs[j]? =some y→¬y.kind=0) (h:¬(xs.length:Int)<10) (h10:xs.length≤10):dH xs= -1:=by
  unfold dH;rw [zF hq ha];simp only;rw [if_pos (by omega)]
end Go.Proofs.YtmejbfmhaoilmaaGreat
/- What is proved: blocks that are used, free and picked, in plain Lean. No condition. -/
namespace Go.Proofs.YtmejbfmhaoilmaaGreat
open Go Go.RowKit
set_option linter.unusedVariables false
set_option linter.unusedSimpArgs false
def gD (xs:List aF):List Int:=(xs.map (·.blocks)).flatten
def kV (l:List Int):List Int:=l.mergeSort (fun x y=>decide (x≤y))
theorem qI (l:List Int):(kV l).Perm l:=List.mergeSort_perm ..
theorem zM (l:List Int):(kV l).length=l.length:=(qI l).length_eq
theorem iU {l:List Int}{a:Int}:a∈kV l↔a∈l:=(qI l).mem_iff
theorem aAl (l:List Int):(kV l).Pairwise (· ≤ ·):=by
  have:=List.pairwise_mergeSort (le:=fun(x y:Int)=>decide (x≤y)) (fun a b c h k=>by simp at *;omega) (fun a b=>by simp;omega) l
  exact this.imp (fun h=>by simpa using h)
theorem oC {xs:List aF}{k:Nat}{x:aF} (h:xs[k]? =some x):gD (xs.take k)++x.blocks=gD (xs.take (k+1)):=by
  unfold gD
  rw [←jX h]
  simp
theorem aBh (zs:List Int):(Lib.compact zs).length≤zs.length:=by
  unfold Lib.compact Lib.compactUpTo
  rw [List.length_map]
  exact Nat.le_trans (List.length_filter_le _ _) (by simp)
theorem yU {zs:List Int} (h:zs.Nodup):(Lib.compact zs).length=zs.length:=by
  rw [Lib.compact_all zs]
  intro j hj
  by_cases h0:j=0
  · simp [Lib.keeps,h0]
  · refine Lib.keeps_pos ?_
    rw [getElem!_pos zs.toArray j (by simpa using hj),getElem!_pos zs.toArray (j - 1) (by simp;omega)]
    intro e
    have:=List.pairwise_iff_getElem.1 (List.nodup_iff_pairwise_ne.1 h) (j - 1) j (by omega) hj (by omega)
    exact this (by simpa using e.symm)
theorem aCw {zs:List Int} (hs:zs.Pairwise (· ≤ ·)) (h:¬zs.Nodup):(Lib.compact zs).length<zs.length:=by
  -- a place whose left neighbour holds the same
  have hex:∃j,0<j∧∃h1:j<zs.length,zs[j]=zs[j - 1]:=by
    apply Classical.byContradiction
    intro hno
    apply h
    have hlt:∀(d i:Nat) (h1:i+d+1<zs.length),zs[i]<zs[i+d+1]:=by
      intro d
      induction d with
      | zero=>
        intro i h1
        have h2:zs[i]≤zs[i+1]:=List.pairwise_iff_getElem.1 hs i (i+1) (by omega) h1 (by omega)
        have h3:zs[i+1]≠zs[i]:=fun e=>hno ⟨i+1,by omega,h1,by simpa using e⟩
        simp only [Nat.add_zero]
        omega
      | succ d ih=>
        intro i h1
        have h2:=ih i (by omega)
        have h4:zs[i+d+1]≤zs[i+d+1+1]:=List.pairwise_iff_getElem.1 hs (i+d+1) (i+d+1+1) (by omega) (by omega) (by omega)
        have e:i+(d+1)+1=i+d+1+1:=by omega
        simp only [e]
        omega
    rw [List.nodup_iff_pairwise_ne,List.pairwise_iff_getElem]
    intro i j hi hj hij
    have:=hlt (j - i - 1) i (by omega)
    have e:i+(j - i - 1)+1=j:=by omega
    simp only [e] at this
    omega
  obtain⟨j,hj0,hj,he⟩:=hex
  have hk:Lib.keeps zs.toArray j=false:=by
    refine Lib.keeps_neg hj0 ?_
    rw [getElem!_pos zs.toArray j (by simpa using hj),getElem!_pos zs.toArray (j - 1) (by simp;omega)]
    simpa using he
  unfold Lib.compact Lib.compactUpTo
  rw [List.length_map]
  have:=List.length_filter_lt_length_iff_exists (l:=List.range zs.length) (p:=Lib.keeps zs.toArray)
  rw [List.length_range] at this
  exact this.2 ⟨j,List.mem_range.2 hj,by rw [hk];exact Bool.false_ne_true⟩
theorem aCt (l:List Int):((Lib.compact (kV l)).length=(kV l).length)↔l.Nodup:=by
  constructor
  · intro h
    apply Classical.byContradiction
    intro hn
    have:=aCw (aAl l) (fun h2=>hn ((qI l).nodup_iff.1 h2))
    omega
  · intro h
    exact yU ((qI l).nodup_iff.2 h)
def wF (a b:Int):Nat:=if b=a then 1 else 0
def aA7 (a:Int) (x:aF):Nat:=fQ (wF a) x.blocks
def pG (xs:List aF) (a:Int):Nat:=fQ (aA7 a) xs
theorem tW {α : Type} (f : α → Nat) : ∀ xs ys : List α, fQ f (xs ++ ys) = fQ f xs + fQ f ys
  | [],ys=>by simp [fQ]
  | x :: xs,ys=>by simp only [List.cons_append,fQ,tW f xs ys];omega
theorem zU (a : Int) : ∀ l : List Int, fQ (wF a) l = l.count a
  | []=>rfl
  | b :: l=>by
    simp only [fQ,zU a l,List.count_cons,wF,beq_iff_eq]
    omega
theorem pV (a : Int) : ∀ xs : List aF, pG xs a = (gD xs).count a
  | []=>rfl
  | x :: xs=>by
    have ih:=pV a xs
    unfold pG gD at ih ⊢
    simp only [fQ,List.map_cons,List.flatten_cons,List.count_append,←ih,aA7,zU]
theorem nX {x:aF} (h:bV x=0):x.blocks.length≤4∧∀b,b∈x.blocks→0≤b∧b≤19:=by
  unfold bV at h
  split at h
  · split at h
    · exact absurd h (by decide)
    · rename_i h1 h2
      split at h
      · unfold fW at h
        split at h
        · split at h
          · split at h
            · exact absurd h (by decide)
            · rename_i h3 h4 h5
              refine⟨by omega,fun b hb=> ?_⟩
              simp only [List.any_eq_true,not_exists,not_and] at h5
              have:=h5 b hb
              simpa using this
          · exact absurd h (by decide)
        · exact absurd h (by decide)
      · have h0 : x.blocks.length = 0 := by omega
        exact⟨by omega,fun b hb=>by rw [List.length_eq_zero_iff.1 h0] at hb;cases hb⟩
  · exact absurd h (by decide)
theorem aFk {xs:List aF} (h:bJ xs=0) {b:Int} (hb:b∈gD xs):0≤b∧b≤19:=by
  unfold gD at hb
  obtain⟨l,hl,hb⟩:=List.mem_flatten.1 hb
  obtain⟨x,hx,rfl⟩:=List.mem_map.1 hl
  exact(nX (dT h x hx)).2 b hb
theorem aFu {xs:List aF} (h:∀x,x∈xs→bV x=0):(gD xs).length≤xs.length * 4:=by
  induction xs with
  | nil=>simp [gD]
  | cons x xs ih=>
    have h1:=(nX (h x List.mem_cons_self)).1
    have h2:=ih (fun y hy=>h y (List.mem_cons_of_mem _ hy))
    unfold gD at h2 ⊢
    simp only [List.map_cons,List.flatten_cons,List.length_append,List.length_cons]
    omega
theorem pR {xs:List aF} (h:bJ xs=0) (k:Nat):(gD (xs.take k)).length≤40:=by
  have h1:=aFu (xs:=xs.take k) (fun x hx=>dT h x (List.mem_of_mem_take hx))
  have h2:=pW h
  rw [List.length_take] at h1
  omega
theorem aHk {xs:List aF} (h:bJ xs=0) (a:Int):pG xs a≤40:=by
  rw [pV]
  have:=pR h xs.length
  rw [List.take_length] at this
  exact Nat.le_trans List.count_le_length this
def dN (p:Int→Bool) (k:Nat):List Int:=((List.range k).map (fun i:Nat=>(i:Int))).filter p
theorem rF {p:Int→Bool}{k:Nat} (h:p (k:Int)=true):dN p k++ [(k:Int)]=dN p (k+1):=by
  unfold dN
  rw [List.range_succ]
  simp [h]
theorem mB {p:Int→Bool}{k:Nat} (h:p (k:Int)=false):dN p k=dN p (k+1):=by
  unfold dN
  rw [List.range_succ]
  simp [h]
theorem qM {p:Int→Bool}{k:Nat}:(dN p k).length≤k:=by
  unfold dN
  exact Nat.le_trans (List.length_filter_le _ _) (by simp)
theorem aA4 {p:Int→Bool}{k:Nat}{a:Int}:a∈dN p k↔(0≤a∧a<k)∧p a=true:=by
  unfold dN
  rw [List.mem_filter,List.mem_map]
  constructor
  · rintro ⟨⟨i, hi, rfl⟩, hp⟩
    have:=List.mem_range.1 hi
    exact⟨⟨by omega,by omega⟩,hp⟩
  · rintro ⟨⟨h1, h2⟩, hp⟩
    exact⟨⟨a.toNat,List.mem_range.2 (by omega),by omega⟩,hp⟩
theorem yC {p q:Int→Bool}{k:Nat} (h:∀a:Int,0≤a→a<k→p a=q a):dN p k=dN q k:=by
  unfold dN
  refine List.filter_congr fun a ha=> ?_
  obtain⟨i,hi,rfl⟩:=List.mem_map.1 ha
  have:=List.mem_range.1 hi
  exact h _ (by omega) (by omega)
def tL (xs:List aF) (k:Nat):Prop:=∀j,j<k→pG xs (j:Int)≤1
instance (xs:List aF) (k:Nat):Decidable (tL xs k):=by unfold tL;infer_instance
theorem jS {xs:List aF}{k:Nat}:tL xs (k+1)↔tL xs k∧pG xs (k:Int)≤1:=by
  unfold tL
  constructor
  · intro h
    exact⟨fun j hj=>h j (by omega),h k (by omega)⟩
  · rintro ⟨h1, h2⟩ j hj
    by_cases hk:j=k
    · subst hk;exact h2
    · exact h1 j (by omega)
theorem aE9 {xs:List aF} (h:bJ xs=0):tL xs 20↔(gD xs).Nodup:=by
  rw [List.nodup_iff_count]
  constructor
  · intro ho a
    by_cases ha:a∈gD xs
    · have hb := aFk h ha
      have:=ho a.toNat (by omega)
      rw [show((a.toNat:Nat):Int)=a by omega,pV] at this
      exact this
    · rw [List.count_eq_zero_of_not_mem ha];omega
  · intro hn j _
    rw [pV]
    exact hn _
abbrev oZ (xs:List aF):Int→Bool:=fun a=>decide (0<pG xs a)
abbrev uI (xs:List aF) (busy:List Int):Int→Bool:=fun b=>decide (¬b∈gD xs∧¬b∈busy)
theorem lA {xs:List aF}{a:Int}:(pG xs a:Int)=0↔¬a∈gD xs:=by
  rw [pV]
  constructor
  · intro h ha
    have:=List.count_pos_iff.2 ha
    omega
  · intro h
    rw [List.count_eq_zero_of_not_mem h]
    rfl
def nJ (xs:List aF) (busy:List Int):List Int:=dN (uI xs busy) 20
def jK (xs:List aF) (busy:List Int):Int:=if bJ xs=0 then iV busy else bJ xs
theorem aGr {xs:List aF}{busy:List Int} (h:jK xs busy=0):bJ xs=0:=by
  unfold jK at h
  split at h
  · assumption
  · exact h
def nH (xs:List aF) (busy:List Int) (n:Int):qQ:=if 0≤n∧n≤4 then if((nJ xs busy).length:Int)<n then⟨8,[]⟩else⟨0,(nJ xs busy).take n.toNat⟩else⟨3,[]⟩
theorem uT {xs:List aF}{busy:List Int}{n:Int} (h:¬(0≤n∧n≤4)):nH xs busy n=⟨3,[]⟩:=if_neg h
theorem tX {xs:List aF}{busy:List Int}{n:Int} (h:0≤n∧n≤4) (h2:((nJ xs busy).length:Int)<n):nH xs busy n=⟨8,[]⟩:=by unfold nH;rw [if_pos h,if_pos h2]
theorem uS {xs:List aF}{busy:List Int}{n:Int} (h:0≤n∧n≤4) (h2:¬((nJ xs busy).length:Int)<n):nH xs busy n=⟨0,(nJ xs busy).take n.toNat⟩:=by unfold nH;rw [if_pos h,if_neg h2]
def sV (xs:List aF) (busy:List Int) (n:Int):qQ:=if jK xs busy=0 then nH xs busy n else⟨jK xs busy,[]⟩
theorem wO {xs:List aF}{busy:List Int}{n:Int} (h:¬jK xs busy=0):sV xs busy n=⟨jK xs busy,[]⟩:=if_neg h
theorem jA {xs:List aF}{busy:List Int}{n:Int} (h:jK xs busy=0):sV xs busy n=nH xs busy n:=if_pos h
end Go.Proofs.YtmejbfmhaoilmaaGreat
/- What is proved: the words of an inode, and an inode read back, in plain Lean. No condition. -/
namespace Go.Proofs.YtmejbfmhaoilmaaGreat
open Go Go.RowKit
set_option linter.unusedVariables false
set_option linter.unusedSimpArgs false
theorem nN {x:aF} (h:bV x=0):∀(j:Nat) e,x.ents[j]? =some e→cD e.name=0∧0≤e.ino∧e.ino≤9:=by
  unfold bV at h
  split at h
  · split at h
    · exact absurd h (by decide)
    · rename_i h1 h2
      intro j e he
      have hj:=(List.getElem?_eq_some_iff.1 he).1
      split at h
      · omega
      · split at h
        · unfold iP at h
          split at h
          · exact absurd h (by decide)
          · have h3 := tH h j (List.mem_range.2 hj)
            unfold nY at h3
            rw [he] at h3
            simp only [nM] at h3
            split at h3
            · split at h3
              · rename_i h4 h5;exact⟨h4,h5⟩
              · exact absurd h3 (by decide)
            · contradiction
        · omega
  · exact absurd h (by decide)
end Go.Proofs.YtmejbfmhaoilmaaGreat
/- What is proved: a tree's faults, what a name leads to, in plain Lean. No condition. -/
namespace Go.Proofs.YtmejbfmhaoilmaaGreat
open Go Go.RowKit
set_option linter.unusedVariables false
set_option linter.unusedSimpArgs false
def aR (xs:List aF) (i:Int):Int:=match xs[i.toNat]? with | some x=>x.kind | none=>0
theorem cH {xs:List aF}{i:Int}{j:Nat}{x:aF} (hx:xs[j]? =some x) (h:i=(j:Int)):aR xs i=x.kind:=by
  subst h
  unfold aR
  rw [Int.toNat_natCast,hx]
theorem pY {xs:List aF}{i:Int} (h:(xs.length:Int)≤i):aR xs i=0:=by
  unfold aR
  rw [List.getElem?_eq_none (by omega)]
abbrev pF (xs:List aF) (e:aQ):Prop:=aR xs e.ino=0
def gF (f:DFs):Int:=if bJ f.inodes=0 then if f.inodes.length=0∨¬aR f.inodes 0=2∨¬f.data.length=20 then 1 else 0 else bJ f.inodes
theorem eA {f:DFs} (h:¬bJ f.inodes=0):gF f=bJ f.inodes:=if_neg h
theorem dZ {f:DFs} (h:bJ f.inodes=0) (h2:f.inodes.length=0∨¬aR f.inodes 0=2∨¬f.data.length=20):gF f=1:=by unfold gF;rw [if_pos h,if_pos h2]
theorem cN {f:DFs} (h:bJ f.inodes=0) (h1:¬f.inodes.length=0) (h2:aR f.inodes 0=2) (h3:f.data.length=20):gF f=0:=by unfold gF;rw [if_pos h,if_neg (by omega)]
theorem tA {f:DFs} (h:gF f=0):bJ f.inodes=0∧0<f.inodes.length∧aR f.inodes 0=2∧f.data.length=20:=by
  unfold gF at h
  split at h
  · split at h
    · exact absurd h (by decide)
    · rename_i h1 h2;exact⟨h1,by omega,by omega,by omega⟩
  · contradiction
def xX (f:DFs):Bool:=f.data.any (fun b=>decide ((8:Int)<(b.length:Int)))
def aCs (f:DFs):Bool:=f.inodes.any (fun x=>x.ents.any (fun e=>decide (pF f.inodes e)))
def bX (f:DFs):Int:=if gF f=0 then if xX f=true then 2 else if(gD f.inodes).Nodup then if aCs f=true then 4 else 0 else 7 else gF f
theorem dW {f:DFs} (h:¬gF f=0):bX f=gF f:=if_neg h
theorem fK {f:DFs} (h:gF f=0) (h2:xX f=true):bX f=2:=by unfold bX;rw [if_pos h,if_pos h2]
theorem fL {f:DFs} (h:gF f=0) (h2:xX f=false) (h3:¬(gD f.inodes).Nodup):bX f=7:=by unfold bX;rw [if_pos h,if_neg (by rw [h2];decide),if_neg h3]
theorem pB {f:DFs} (h:gF f=0) (h2:xX f=false) (h3:(gD f.inodes).Nodup) (h4:aCs f=true):bX f=4:=by unfold bX;rw [if_pos h,if_neg (by rw [h2];decide),if_pos h3,if_pos h4]
theorem fD {f:DFs} (h:gF f=0) (h2:xX f=false) (h3:(gD f.inodes).Nodup) (h4:aCs f=false):bX f=0:=by unfold bX;rw [if_pos h,if_neg (by rw [h2];decide),if_pos h3,if_neg (by rw [h4];decide)]
theorem aH4 {f:DFs}{k:Nat}{b:List UInt8} (hb:f.data[k]? =some b) (h:(8:Int)<(b.length:Int)):xX f=true:=List.any_eq_true.2 ⟨b,List.mem_of_getElem? hb,decide_eq_true h⟩
theorem gX {f:DFs} (h:∀j b,j<f.data.length→f.data[j]? =some b→¬(8:Int)<(b.length:Int)):xX f=false:=by
  unfold xX
  rw [List.any_eq_false]
  intro b hb
  obtain⟨j,hj⟩:=List.mem_iff_getElem?.1 hb
  rw [decide_eq_false (h j b (List.getElem?_eq_some_iff.1 hj).1 hj)]
  decide
theorem rO {f:DFs}{k q:Nat}{x:aF}{e:aQ} (hx:f.inodes[k]? =some x) (he:x.ents[q]? =some e) (h:pF f.inodes e):aCs f=true:=
  List.any_eq_true.2 ⟨x,List.mem_of_getElem? hx,List.any_eq_true.2 ⟨e,List.mem_of_getElem? he,decide_eq_true h⟩⟩
abbrev uP (xs:List aF) (x:aF):Prop:=∀(j:Nat) (e:aQ),x.ents[j]? =some e→¬pF xs e
theorem jI {f:DFs} (h:∀j x,j<f.inodes.length→f.inodes[j]? =some x→uP f.inodes x):aCs f=false:=by
  unfold aCs
  rw [List.any_eq_false]
  intro x hx
  obtain⟨j,hj⟩:=List.mem_iff_getElem?.1 hx
  have h1:=h j x (List.getElem?_eq_some_iff.1 hj).1 hj
  rw [Bool.not_eq_true,List.any_eq_false]
  intro e he
  obtain⟨i,hi⟩:=List.mem_iff_getElem?.1 he
  rw [decide_eq_false (h1 i e hi)]
  decide
theorem rI {f:DFs} (h:bX f=0):gF f=0∧xX f=false∧(gD f.inodes).Nodup∧aCs f=false:=by
  unfold bX at h
  split at h
  · split at h
    · exact absurd h (by decide)
    · split at h
      · split at h
        · exact absurd h (by decide)
        · rename_i h1 h2 h3 h4;exact⟨h1,by simpa using h2,h3,by simpa using h4⟩
      · exact absurd h (by decide)
  · contradiction
theorem iY {f:DFs} (h:bX f=0):bJ f.inodes=0:=(tA (rI h).1).1
theorem aIs {f:DFs} (h:aCs f=false) {k:Nat}{x:aF} (hx:f.inodes[k]? =some x):uP f.inodes x:=fun j e he hb=>by
  have:=rO hx he hb
  rw [h] at this
  cases this
theorem aHw {xs:List aF}{e:aQ} (h:¬pF xs e):e.ino<(xs.length:Int):=by
  apply Classical.byContradiction
  intro hn
  exact h (pY (by omega))
def fI (f:DFs) (a:Int):Int:=if bX f=0 then if bR f.inodes.length a then if aR f.inodes a=2 then 0 else 9 else 3 else bX f
theorem lS {f:DFs}{a:Int} (h:¬bX f=0):fI f a=bX f:=if_neg h
theorem lV {f:DFs}{a:Int} (h:bX f=0) (h2:¬bR f.inodes.length a):fI f a=3:=by unfold fI;rw [if_pos h,if_neg h2]
theorem lP {f:DFs}{a:Int} (h:bX f=0) (h2:bR f.inodes.length a) (h3:¬aR f.inodes a=2):fI f a=9:=by unfold fI;rw [if_pos h,if_pos h2,if_neg h3]
theorem kR {f:DFs}{a:Int} (h:bX f=0) (h2:bR f.inodes.length a) (h3:aR f.inodes a=2):fI f a=0:=by unfold fI;rw [if_pos h,if_pos h2,if_pos h3]
theorem qT {f:DFs}{a:Int} (h:fI f a=0):bX f=0∧bR f.inodes.length a∧aR f.inodes a=2:=by
  unfold fI at h
  split at h
  · split at h
    · split at h
      · rename_i h1 h2 h3;exact⟨h1,h2,h3⟩
      · exact absurd h (by decide)
    · exact absurd h (by decide)
  · contradiction
def eE (f:DFs) (a:Int) (s:ByteArray):Int:=if fI f a=0 then cD s else fI f a
theorem qG {f:DFs}{a:Int}{s:ByteArray} (h:¬fI f a=0):eE f a s=fI f a:=if_neg h
theorem kF {f:DFs}{a:Int}{s:ByteArray} (h:fI f a=0):eE f a s=cD s:=if_pos h
theorem tM {f:DFs}{a:Int}{s:ByteArray} (h:eE f a s=0):fI f a=0:=by
  unfold eE at h
  split at h
  · assumption
  · contradiction
def aB (xs:List aF) (a:Int):List aQ:=match xs[a.toNat]? with | some x=>x.ents | none=> []
theorem cI {xs:List aF}{a:Int}{j:Nat}{x:aF} (hx:xs[j]? =some x) (h:a=(j:Int)):aB xs a=x.ents:=by
  subst h
  unfold aB
  rw [Int.toNat_natCast,hx]
abbrev cA (s:ByteArray):aQ→Bool:=fun e=>decide (e.name=s)
def eI (es:List aQ) (s:ByteArray):Int:=match es.find? (cA s) with | some e=>e.ino | none=> -1
theorem vA {es:List aQ}{s:ByteArray}{k:Nat}{e:aQ} (he:es[k]? =some e) (h:e.name=s) (ha:∀j x,j<k→es[j]? =some x→¬x.name=s):eI es s=e.ino:=by
  have:es.find? (cA s)=some e:=by
    obtain⟨hk,rfl⟩:=List.getElem?_eq_some_iff.1 he
    refine List.find?_eq_some_iff_getElem.2 ⟨decide_eq_true h,k,hk,rfl,fun j hj=> ?_⟩
    have:=ha j _ hj (List.getElem?_eq_getElem (by omega))
    simpa using this
  unfold eI
  rw [this]
theorem aGv {es:List aQ}{s:ByteArray}{k:Nat} (hk:es.length≤k) (ha:∀j x,j<k→es[j]? =some x→¬x.name=s):eI es s= -1:=by
  have:es.find? (cA s)=none:=List.find?_eq_none.2 fun x hx=>by
    obtain⟨j,hj⟩:=List.mem_iff_getElem?.1 hx
    have:=ha j x (by have:=(List.getElem?_eq_some_iff.1 hj).1;omega) hj
    simpa using this
  unfold eI
  rw [this]
theorem gN {α:Type} (p:α→Bool) (xs:List α):eS p xs<(xs.length:Int)∧ -1≤eS p xs:=by
  unfold eS
  cases h:xs.findIdx? p with
  | none=>simp only;omega
  | some i=>
    have:=(List.findIdx?_eq_some_iff_getElem.1 h).1
    simp only;omega
theorem uY {es:List aQ}{s:ByteArray}{x:aQ} (h:¬eS (cA s) es<0) (hx:es[Int.toNat (eS (cA s) es)]? =some x):eI es s=x.ino:=by
  unfold eS at h hx
  cases hf:es.findIdx? (cA s) with
  | none=>rw [hf] at h;exact absurd (by decide:(-1:Int)<0) h
  | some i=>
    rw [hf] at hx
    simp only [Int.toNat_natCast] at hx
    obtain⟨hi,hp,hn⟩:=List.findIdx?_eq_some_iff_getElem.1 hf
    obtain⟨h1,rfl⟩:=List.getElem?_eq_some_iff.1 hx
    refine vA hx (of_decide_eq_true hp) fun j y hj hy=> ?_
    obtain⟨h2,rfl⟩:=List.getElem?_eq_some_iff.1 hy
    have:=hn j hj
    simpa using this
theorem sN {es:List aQ}{s:ByteArray} (h:eS (cA s) es<0):eI es s= -1:=by
  unfold eS at h
  cases hf:es.findIdx? (cA s) with
  | some i=>rw [hf] at h;simp only at h;omega
  | none=>
    have:es.find? (cA s)=none:=List.find?_eq_none.2 fun x hx=>by
      have:=List.findIdx?_eq_none_iff.1 hf x hx
      simpa using this
    unfold eI
    rw [this]
def oE (f:DFs) (a:Int) (s:ByteArray):aGz:=if eE f a s=0 then if eI (aB f.inodes a) s<0 then⟨4,0⟩else⟨0,eI (aB f.inodes a) s⟩else⟨eE f a s,0⟩
theorem aA5 {f:DFs}{a:Int}{s:ByteArray} (h:¬eE f a s=0):oE f a s=⟨eE f a s,0⟩:=if_neg h
theorem aAm {f:DFs}{a:Int}{s:ByteArray} (h:eE f a s=0) (h2:eI (aB f.inodes a) s<0):oE f a s=⟨4,0⟩:=by unfold oE;rw [if_pos h,if_pos h2]
theorem sB {f:DFs}{a:Int}{s:ByteArray} (h:eE f a s=0) (h2:¬eI (aB f.inodes a) s<0):oE f a s=⟨0,eI (aB f.inodes a) s⟩:=by unfold oE;rw [if_pos h,if_neg h2]
def kQ (es:List aQ) (k:Nat):List ByteArray:=(es.take k).map (·.name)
theorem zJ {es:List aQ}{k:Nat}{e:aQ} (h:es[k]? =some e):kQ es k++ [e.name]=kQ es (k+1):=by
  unfold kQ
  rw [←jX h,List.map_append]
  rfl
theorem vX {es:List aQ}{k:Nat}:(kQ es k).length≤es.length:=by
  unfold kQ;rw [List.length_map,List.length_take];omega
def iC (es:List aQ):List ByteArray:=es.map (·.name)
theorem vT {es:List aQ}{k:Nat} (h:es.length≤k):kQ es k=iC es:=by unfold kQ iC;rw [List.take_of_length_le h]
def gT (f:DFs) (a:Int):aHd:=if fI f a=0 then⟨0,iC (aB f.inodes a)⟩else⟨fI f a,[]⟩
theorem uC {f:DFs}{a:Int} (h:¬fI f a=0):gT f a=⟨fI f a,[]⟩:=if_neg h
theorem kU {f:DFs}{a:Int} (h:fI f a=0):gT f a=⟨0,iC (aB f.inodes a)⟩:=if_pos h
def oG (f:DFs) (a:Int):Prop:=fI f a=0∧(aB f.inodes a).length=0
instance (f:DFs) (a:Int):Decidable (oG f a):=by unfold oG;infer_instance
end Go.Proofs.YtmejbfmhaoilmaaGreat
/- What is proved: elements taken out of a slice of one's own, in place. No condition. -/
namespace Go.Proofs.YtmejbfmhaoilmaaGreat
open Go Go.RowKit
set_option linter.unusedVariables false
set_option linter.unusedSimpArgs false
theorem cB.sublist {l l':List Asn} (h:l'.Sublist l):∀{w:World}{S:Bs},cB l w S→cB l' w S:=by
  induction h with
  | slnil=>exact fun h=>h
  | cons c _ ih=>exact fun h=>ih h.drop
  | cons_cons c _ ih=>
    intro w S ⟨A,B,h1,h2,a,b,d⟩
    exact⟨A,B,h1,ih h2,a,b,d⟩
theorem kK {css:List (List Value)}{n:Nat} (hl:∀c,c∈css→c.length=n) (i:Nat):(css.take i).flatten=css.flatten.take (i * n):=by
  induction css generalizing i with
  | nil=>simp
  | cons d css ih=>
    have hd:=hl d List.mem_cons_self
    cases i with
    | zero=>simp
    | succ i=>
      simp only [List.take_succ_cons,List.flatten_cons]
      rw [ih (fun c hc=>hl c (List.mem_cons_of_mem _ hc)) i,List.take_append,List.take_of_length_le (l:=d) (by rw [hd,Nat.succ_mul];omega),hd,Nat.succ_mul,Nat.add_sub_cancel]
theorem qA {css:List (List Value)}{n:Nat} (hl:∀c,c∈css→c.length=n) (i:Nat):(css.drop i).flatten=css.flatten.drop (i * n):=by
  induction css generalizing i with
  | nil=>simp
  | cons d css ih=>
    have hd:=hl d List.mem_cons_self
    cases i with
    | zero=>simp
    | succ i=>
      simp only [List.drop_succ_cons,List.flatten_cons]
      rw [ih (fun c hc=>hl c (List.mem_cons_of_mem _ hc)) i,List.drop_append,List.drop_of_length_le (l:=d) (by rw [hd,Nat.succ_mul];omega),hd,List.nil_append,Nat.succ_mul,Nat.add_sub_cancel]
section
variable {P:Program}{T:eZ}{Wd:World→Prop}{o:Oper}{N:Nat}{w0:World}{S0:Bs}{l l' lk:List Asn}
theorem vM {x:Operand}{t e:TypeId}{sz b n c:Nat}{z:Operand}{k:IntKind}{ad:Addr} (ho:o.op= .slice t x none (some z) none) (ht:P.underlying t=some (.slice e)) (he:(P.info? e).map (·.size)=some sz) (hx:Val T x (.slice (some ad) n c)) (hz:Val T z (.int k (b:Int))) (h:b≤c):eT P o T Wd (.slice (some ad) b c):=by
  have h0:=oM (Wd:=Wd) (a:=0) (b:=b) ho ht he hx (.inl ⟨rfl,rfl⟩) (.inr ⟨z,k,rfl,hz⟩) (Nat.zero_le _) h
  have e1:(some ad).map (·.add (0 * sz))=some ad:=by rw [Nat.zero_mul];simp [Addr.add]
  rw [e1,ite_self,Nat.sub_zero,Nat.sub_zero] at h0
  exact h0
theorem Y.ev {o:Oper}{F F':Act→World→Prop}{R:Value→List Asn→Prop} (hG:yV P N T o F F') (hd:o.dst=none) (he:Eff P o T w0 S0 l R) (h:∀v l',R v l'→Y N w0 S0 F' T l'):Y N w0 S0 F T l:=by
  intro a w h1 h2 h3 h4
  obtain⟨v,w',l',hr,hR,hw⟩:=he a w h3 h4
  refine hG.value a w v w' h2 h3 hr ?_
  rw [hd]
  exact h v l' hR _ w' h1 h2 h3 hw
theorem aB3 {α : Type} {K : Kd α} {e by_ k c : Nat} {ys : List α} {ad : Addr} {A' : Option Addr} {z : Value} {x : Operand} {t : TypeId} (ho : o.op = .call { callee := .builtin .clear, args := #[x], argTypes := #[t] }) (ht : P.underlying t = some (.slice e))
    (hi:(P.info? e).map (fun i=>(i.size,i.bytes,i.zero))=some (K.sz,by_,some z)) (hz:z.cells.size=K.sz) (hz1:∀u,u∈z.cells.toList→u.oneCell'=true) (hx:Val T x (.slice A' k (c - ys.length))) (hA:A'=(if c=ys.length then some ad else some (ad.add (ys.length * K.sz))))
    (hT:kD l [aG (bA e by_ K) ys [.slice (some ad) ys.length c]] l') (hk:ys.length+k≤c):
    Eff P o T w0 S0 l (fun r l2=>l2=aG (bA e by_ K) ys [.slice (some ad) ys.length c] :: l'):=by
  intro a w ha hw
  obtain⟨S1,hA1,tr,hkk⟩:=(hw.takes hT).eff
  obtain⟨i0,k1,k2⟩:=Option.map_eq_some_iff.1 hi
  obtain⟨k2,k3⟩:=Prod.mk.inj k2
  obtain⟨k3,k4⟩:=Prod.mk.inj k3
  have hexec:∀w',(Builtin.clear_ #[t] o.type #[.slice A' k (c - ys.length)]).run P w= .ok (.tuple #[]) w'→(execOp a.eval o).run P w= .ok (.value (.tuple #[])) w':=fun w' h=>by
    simp only [execOp,ho]
    simp [resolve,hx a ha,invoke,builtin,h]
  by_cases hk0:k=0
  · subst hk0
    refine⟨.tuple #[],w,_,hexec w ?_,rfl,hkk w [aG (bA e by_ K) ys [.slice (some ad) ys.length c]] S1 (cB.one hA1.head) (fun b hb=> .inl hb) (Fr.refl _ _)⟩
    cases A' <;> simp [Builtin.clear_,run_underlying ht]
  rw [if_neg (by omega)] at hA
  subst hA
  rcases(show(bA e by_ K).own w S1 ys [.slice (some ad) ys.length c] from hA1.head) with ⟨A,h,rfl⟩ |⟨g,c',css,h,h1,h2,h3,h4,h5⟩
  · have h' := List.singleton_inj.1 h
    injection h' with e1 e2 e3
    omega
  · have h' := List.singleton_inj.1 h
    injection h' with e1 e2 e3
    obtain rfl:=Option.some.inj e1
    subst e3
    obtain⟨B1,B2,⟨hg,cur,q1,q2,q3,q4⟩,hseq,i1,i2,dd⟩:=h5
    have hlc:=mF h4 hseq
    have hfl:css.flatten.length=ys.length * K.sz:=by rw [gE hlc,h4]
    have hzl:(Builtin.zeroCells z.cells k).toList.length=k * K.sz:=by rw [Array.length_toList,size_zeroCells,hz]
    have hmul:(ys.length+k) * K.sz≤c * K.sz:=Nat.mul_le_mul_right _ hk
    rw [Nat.add_mul] at hmul
    have hone:∀u,u∈(Builtin.zeroCells z.cells k).toList→u.oneCell'=true:=by
      intro u hu
      have hu':u∈(madeCells z.cells (k * z.cells.size)).toList:=hu
      rw [mH _ _ (by rw [hz];exact K.pos)] at hu'
      obtain⟨d,hd,hu2⟩:=List.mem_flatten.1 hu'
      rw [(List.mem_replicate.1 hd).2] at hu2
      exact hz1 u hu2
    have hcur:cur.toList.length=cur.size:=Array.length_toList
    have hst:=run_storeCells_at P g (ys.length * K.sz) e (Builtin.zeroCells z.cells k).toList 0 cur w q1 (by rw [hzl];omega) hone
    simp only [Nat.add_zero,hzl] at hst
    have hne:∀b,b≠g→(w.setRow g (cur.toList.take (ys.length * K.sz)++(Builtin.zeroCells z.cells k).toList++cur.toList.drop (ys.length * K.sz+k * K.sz)).toArray).heap[b]? =w.heap[b]? :=fun b hb=>setRow_other w g b _ hb
    refine⟨.tuple #[],_,_,hexec _ ?_,rfl,hkk _ [aG (bA e by_ K) ys [.slice (some ⟨g,0,none⟩) ys.length c]] S1 (cB.one (c:=aG (bA e by_ K) _ _) (.inr ⟨g,c,css,rfl,h1,h2,h3,h4,B1,B2,⟨hg,_,setRow_heap w g cur _ e _ q1,?_,?_,?_⟩,hseq.loc (fun b hb=>hne b (fun e=>dd g hg (e ▸ hb))),i1,i2,dd⟩)) (fun b hb=> .inl hb) ⟨rfl,rfl,rfl,by simp,fun b hb hn=>hne b (fun e=>hn (e ▸ i1 g hg))⟩⟩
    · rw [fO]
      simp [Builtin.clear_,run_underlying ht,hk0,zeroValue,typeInfo,k1,k4,hst]
    · simp only [List.size_toArray,List.length_append,List.length_take,List.length_drop,Array.length_toList,hzl];omega
    · simp only [List.size_toArray,List.length_append,List.length_take,List.length_drop,Array.length_toList,hzl];omega
    · rw [hfl, List.append_assoc, List.take_append_of_le_length (by rw [List.length_take]; omega), List.take_take, Nat.min_self, ← hfl]
      exact q4
end
end Go.Proofs.YtmejbfmhaoilmaaGreat
/- What is proved: the library's contracts of Sort and Compact over rows of numbers, told of one's own slice. No condition. -/
namespace Go.Proofs.YtmejbfmhaoilmaaGreat
open Go Go.RowKit
open Go.Sort (putRow grow putCells mapBlock)
set_option linter.unusedVariables false
set_option linter.unusedSimpArgs false
theorem wW {k : IntKind} {w : World} {S : Bs} : ∀ {zs : List Int} {css : List (List Value)}, css.length = zs.length → cB (iW (iQ k) zs css) w S → css = zs.map (fun z => [Value.int k z])
  | [],[],_,_=>rfl
  | z :: zs,c :: css,hl,h=>by
    have h1:(iQ k).own w S z c:=h.head (c:=aG (iQ k) z c)
    rw [wW (by simpa using hl) (h.drop (c:=aG (iQ k) z c)),List.map_cons,h1.1]
  | [],_ :: _,hl,_=>by simp at hl
  | _ :: _,[],hl,_=>by simp at hl
theorem aCj {k : IntKind} {w : World} {S : Bs} : ∀ zs : List Int, cB (iW (iQ k) zs (zs.map (fun z => [Value.int k z]))) w S
  | []=>trivial
  | z :: zs=>⟨fun _=>False,S,⟨rfl,trivial⟩,aCj zs,fun _ h=>h.elim,fun _ h=>h,fun _ h=>h.elim⟩
theorem aGt {k:IntKind} (zs:List Int):(zs.map (fun z=> [Value.int k z])).flatten=zs.map (Value.int k):=by
  induction zs with
  | nil=>rfl
  | cons z zs ih=>simp [ih]
theorem own_holds {e by_:Nat}{w:World}{S:Bs}{zs:List Int}{v:Value} (h:(bA e by_ (iQ .i64)).own w S zs [v]) (hp:0<zs.length):
    ∃g c,v= .slice (some ⟨g,0,none⟩) zs.length c∧zs.length≤c∧g<w.heap.size∧Go.Sort.Holds (Value.int .i64) w g 0 zs.toArray∧zs.length * by_≤140737488355328∧c≤9223372036854775807∧
      ∀(zs':List Int) (n:Nat) (os:Array Obj),zs'.length=zs.length→(bA e by_ (iQ .i64)).own (grow (putRow (Value.int .i64) (Sort.ahead w n) g 0 zs'.toArray) os) S zs' [v]∧Fr w S (grow (putRow (Value.int .i64) (Sort.ahead w n) g 0 zs'.toArray) os):=by
  rcases h with ⟨A,h1,rfl⟩ |⟨g,c,css,h1,h2,h3,h4,h5,h6⟩
  · exact absurd hp (by simp)
  obtain rfl:v= .slice (some ⟨g,0,none⟩) zs.length c:=by simpa using h1
  obtain⟨S1,S2,⟨hg,cur,k1,k2,k3,k4⟩,hseq,a1,a2,a3⟩:=h6
  have hcss:=wW h5 hseq
  subst hcss
  rw [aGt] at k3 k4
  simp only [List.length_map] at k3 k4
  have hlt:g<w.heap.size:=(Array.getElem?_eq_some_iff.1 k1).1
  have hcell:∀j,j<zs.length→cur[j]? =some (.int .i64 (zs[j]!)):=fun j hj=>by
    have:(cur.toList.take zs.length)[j]? =(zs.map (Value.int .i64))[j]? :=by rw [k4]
    rw [List.getElem?_take,if_pos hj,List.getElem?_map,List.getElem?_eq_getElem hj] at this
    rw [Array.getElem?_toList] at this
    rw [this,getElem!_pos zs j hj]
    rfl
  refine⟨g,c,rfl,h2,hlt,fun j hj=>⟨?_,?_⟩,h4,h3,fun zs' n os hl=> ?_⟩
  · have hj' : j < zs.length := by simpa using hj
    rw [cell_of_row w g (0+j) cur e (0,0) k1,Nat.zero_add,hcell j hj']
    simp [getElem!_pos zs j hj',getElem!_pos zs.toArray j hj]
  · simp [World.frozen?,k1]
  · have hb:(grow (putRow (Value.int .i64) (Sort.ahead w n) g 0 zs'.toArray) os).heap[g]? =some (.cells (putCells (Value.int .i64) 0 zs'.toArray cur) e (0,0)):=by
      simp only [grow,putRow,mapBlock,Sort.ahead]
      rw [Array.getElem?_append_left (by simpa using hlt),Array.getElem?_modify,if_pos rfl,k1]
      rfl
    have ho:∀b,b<w.heap.size→b≠g→(grow (putRow (Value.int .i64) (Sort.ahead w n) g 0 zs'.toArray) os).heap[b]? =w.heap[b]? :=fun b hb hne=>by
      simp only [grow,putRow,mapBlock,Sort.ahead]
      rw [Array.getElem?_append_left (by simpa using hb),Array.getElem?_modify,if_neg (fun e=>hne e.symm)]
    have hsz:w.heap.size≤(grow (putRow (Value.int .i64) (Sort.ahead w n) g 0 zs'.toArray) os).heap.size:=by simp [grow,putRow,mapBlock,Sort.ahead]
    have hfr:Fr w S (grow (putRow (Value.int .i64) (Sort.ahead w n) g 0 zs'.toArray) os):=⟨rfl,rfl,rfl,hsz,fun b hb hn=>ho b hb (fun e=>hn (e ▸ a1 g hg))⟩
    refine⟨.inr ⟨g,c,zs'.map (fun z=> [Value.int .i64 z]),by rw [hl],by omega,h3,by rw [hl];exact h4,by simp,?_⟩,hfr⟩
    refine⟨S1,fun _=>False,⟨hg,_,hb,?_,?_,?_⟩,aCj zs',a1,fun _ h=>h.elim,fun _ _ h=>h⟩
    · simpa [putCells] using k2
    · rw [aGt]
      simp only [putCells,Array.size_mapIdx,List.length_map]
      omega
    · rw [aGt]
      apply List.ext_getElem?
      intro j
      rw [List.getElem?_take,List.length_map]
      split
      · rename_i hj
        have hjc:j<cur.size:=by omega
        rw [Array.getElem?_toList,putCells,Array.getElem?_mapIdx,Array.getElem?_eq_getElem hjc,Option.map_some,if_pos ⟨by omega,by simpa using hj⟩,List.getElem?_map,List.getElem?_eq_getElem hj,Option.map_some]
        simp [getElem!_pos zs'.toArray j (by simpa using hj)]
      · rw [List.getElem?_eq_none (by rw [List.length_map];omega)]
theorem aCl {e by_:Nat}{w:World}{S:Bs}{zs:List Int}{v:Value} (h:(bA e by_ (iQ .i64)).own w S zs [v]) (hp:¬0<zs.length):zs= []∧∃A c,v= .slice A 0 c:=by
  have h0:zs= []:=List.length_eq_zero_iff.1 (by omega)
  subst h0
  obtain⟨A,c,h1,_⟩:=wT h
  exact⟨rfl,A,c,by simpa using h1⟩
theorem aIh {P : Program} {f : FuncId} {e by_ : Nat} {w0 : World} {S0 : Bs} {zs : List Int} {v0 : Value}
    (h1:∀(blk off cap:Nat) (zs:List Int) (w:World),Go.Sort.Holds (Value.int .i64) w blk off zs.toArray→blk<w.heap.size→zs.length<4611686018427387904→Calls P f #[.slice (some ⟨blk,off,none⟩) zs.length cap] w fun e w'=>e= .returned (.tuple #[])∧∃n os,w'=grow (putRow (Value.int .i64) (Sort.ahead w n) blk off (zs.mergeSort fun x y=>decide (x≤y)).toArray) os)
    (h2:∀(p:Option Addr) (cap:Nat) (w:World),Calls P f #[.slice p 0 cap] w fun e w'=>e= .returned (.tuple #[])∧w'=w) (h8:8≤by_)
    (hs:cB [aG (bA e by_ (iQ .i64)) zs [v0]] w0 S0):Calls P f #[v0] w0 (aJ w0 S0 (fun r l=>r= .tuple #[]∧l= [aG (bA e by_ (iQ .i64)) (kV zs) [v0]])):=by
  have ho:(bA e by_ (iQ .i64)).own w0 S0 zs [v0]:=hs.head (c:=aG (bA e by_ (iQ .i64)) zs [v0])
  by_cases hp:0<zs.length
  · obtain ⟨g, c, rfl, g1, g2, g3, g4, g5, g6⟩ := own_holds ho hp
    have hb:zs.length * 8≤zs.length * by_:=Nat.mul_le_mul_left _ h8
    refine(h1 g 0 c zs w0 g3 g2 (by omega)).mono fun e' w' ⟨he,n,os,hw⟩=> ?_
    obtain⟨k1,k2⟩:=g6 (kV zs) n os (zM zs)
    have hw':w'=grow (putRow (Value.int .i64) (Sort.ahead w0 n) g 0 (kV zs).toArray) os:=hw
    subst hw'
    exact⟨_,_,he,⟨rfl,rfl⟩,S0,cB.one (c:=aG (bA e by_ (iQ .i64)) (kV zs) _) k1,fun b hb=> .inl hb,k2⟩
  · obtain ⟨rfl, A, c, rfl⟩ := aCl ho hp
    refine(h2 A c w0).mono fun e' w' ⟨he,hw⟩=> ?_
    subst hw
    have e0:kV []= []:=by simp [kV]
    exact⟨_,_,he,⟨rfl,rfl⟩,S0,by rw [e0];exact hs,fun b hb=> .inl hb,Fr.refl _ _⟩
theorem aG4 (w:World):grow w #[]=w:=by cases w;simp [grow]
theorem aCp {P : Program} {f : FuncId} {e by_ : Nat} {w0 : World} {S0 : Bs} {zs : List Int} {v0 : Value}
    (h1:∀(blk off cap:Nat) (zs:List Int) (w:World),Go.Sort.Holds (Value.int .i64) w blk off zs.toArray→zs.length≤9223372036854775807→zs.length≤cap→Calls P f #[.slice (some ⟨blk,off,none⟩) zs.length cap] w fun e w'=>e= .returned (.slice (some ⟨blk,off,none⟩) (Lib.compact zs).length cap)∧∃q,w'=putRow (Value.int .i64) (Sort.ahead w q) blk off (Lib.compact zs++List.replicate (zs.length - (Lib.compact zs).length) 0).toArray)
    (h2:∀(a:Option Addr) (cap:Nat) (w:World),Calls P f #[.slice a 0 cap] w fun e w'=>e= .returned (.slice a 0 cap)∧w'=w)
    (hs:cB [aG (bA e by_ (iQ .i64)) zs [v0]] w0 S0):Calls P f #[v0] w0 (aJ w0 S0 (fun r l=>∃z:Option Addr×Nat,r= .slice z.1 (Lib.compact zs).length z.2∧l= [])):=by
  have ho:(bA e by_ (iQ .i64)).own w0 S0 zs [v0]:=hs.head (c:=aG (bA e by_ (iQ .i64)) zs [v0])
  by_cases hp:0<zs.length
  · obtain ⟨g, c, rfl, g1, g2, g3, g4, g5, g6⟩ := own_holds ho hp
    refine(h1 g 0 c zs w0 g3 (by omega) g1).mono fun e' w' ⟨he,q,hw⟩=> ?_
    obtain⟨k1,k2⟩:=g6 (Lib.compact zs++List.replicate (zs.length - (Lib.compact zs).length) 0) q #[] (by have:=aBh zs;simp;omega)
    have hw':w'=grow (putRow (Value.int .i64) (Sort.ahead w0 q) g 0 (Lib.compact zs++List.replicate (zs.length - (Lib.compact zs).length) 0).toArray) #[]:=by rw [hw,aG4]
    subst hw'
    exact⟨_,_,he,⟨(_,_),rfl,rfl⟩,S0,trivial,fun b hb=> .inl hb,k2⟩
  · obtain ⟨rfl, A, c, rfl⟩ := aCl ho hp
    refine(h2 A c w0).mono fun e' w' ⟨he,hw⟩=> ?_
    subst hw
    have e0:(Lib.compact ([]:List Int)).length=0:=rfl
    exact⟨_,_,he,⟨(A,c),by rw [e0],rfl⟩,S0,trivial,fun b hb=> .inl hb,Fr.refl _ _⟩
theorem Y.ak {N:Nat}{w0:World}{S0:Bs}{F:Act→World→Prop}{T:eZ}{l l':List Asn}{c c':Asn} (h:fP l c l') (e:c=c') (k:Y N w0 S0 F T (c' :: l')):Y N w0 S0 F T l:=by subst e;exact Y.take h k
theorem aB7 {α:Type}{K:Kd α}{e by_ n c:Nat}{xs:List α}{A:Option Addr} (hn:n≤xs.length) (w:World) (S:Bs) (h:cB [aG (bA e by_ K) xs [.slice A xs.length c]] w S):(aG (bA e by_ K) (xs.take n) [.slice A n c]).p w S:=by
  have hl:(xs.take n).length=n:=by rw [List.length_take];omega
  rcases(show(bA e by_ K).own w S xs [.slice A xs.length c] from h.head (c:=aG (bA e by_ K) xs _)) with ⟨A',h1,rfl⟩ |⟨g,c',css,h1,h2,h3,h4,h5,h6⟩
  · obtain rfl : n = 0 := by simpa using hn
    injection h1 with h1 _
    injection h1 with h1 h2 h3
    subst h3
    exact .inl ⟨A,rfl,rfl⟩
  · injection h1 with h1 _
    injection h1 with h1 _ h3'
    subst h1;subst h3'
    obtain⟨S1,S2,⟨hg,cur,k1,k2,k3,k4⟩,hseq,a1,a2,a3⟩:=h6
    have hlc:=mF h5 hseq
    have hft:=kK hlc n
    refine .inr ⟨g,c,css.take n,by rw [hl],by omega,h3,?_,by rw [List.length_take,List.length_take,h5],?_⟩
    · rw [hl];exact Nat.le_trans (Nat.mul_le_mul_right _ hn) h4
    · refine ⟨S1, S2, ⟨hg, cur, k1, k2, ?_, ?_⟩, ?_, a1, a2, a3⟩
      · rw [hft,List.length_take];omega
      · rw [hft, List.length_take]
        have:cur.toList.take (min (n * K.sz) css.flatten.length)=(cur.toList.take css.flatten.length).take (n * K.sz):=by rw [List.take_take]
        rw [this,k4]
      · have : iW K (xs.take n) (css.take n) = (iW K xs css).take n := by simp [iW, List.take_zipWith]
        rw [this]
        exact cB.sublist (List.take_sublist _ _) hseq
theorem vD {α:Type}{K:Kd α}{e by_ n c:Nat}{xs:List α}{A:Option Addr} (hn:n≤xs.length) (w:World) (S:Bs) (h:cB [aG (bA e by_ K) xs [.slice A xs.length c]] w S):(aG (bA e by_ K) (xs.take n) [.slice A (xs.take n).length c]).p w S:=by
  have:=aB7 hn w S h
  rwa [show(xs.take n).length=n by rw [List.length_take];omega]
theorem WS.w {w0:World}{S0:Bs}{l l':List Asn}{α:Type}{K:Kd α}{e by_:Nat}{xs:List α}{A:Option Addr}{n c:Nat} (ht:fP l (aG (bA e by_ K) xs [.slice A n c]) l'):∀w,WS w0 S0 l w→n=xs.length∧n≤c∧c≤9223372036854775807∧n * by_≤140737488355328:=fun w hw=>by
  obtain⟨A',c',h,h1,h2,h3⟩:=WS.a ht w hw
  injection h with _ h4 h5
  subst h4;subst h5
  exact⟨rfl,h1,h2,h3⟩
section
variable {P:Program}{T:eZ}{Wd:World→Prop}{o:Oper}
theorem rB {x:Operand}{t e:TypeId}{sz b n c:Nat}{z:Operand}{k:IntKind}{A:Option Addr} (ho:o.op= .slice t x none (some z) none) (ht:P.underlying t=some (.slice e)) (he:(P.info? e).map (·.size)=some sz) (hx:Val T x (.slice A n c)) (hz:Val T z (.int k (b:Int))) (h:b≤c):eT P o T Wd (.slice A b c):=by
  have:=oM (a:=0) (b:=b) (Wd:=Wd) ho ht he hx (.inl ⟨rfl,rfl⟩) (.inr ⟨_,_,rfl,hz⟩) (by omega) h
  have e1:(if c=0 then A else A.map (·.add (0 * sz)))=A:=by
    split
    · rfl
    · cases A with
      | none=>rfl
      | some a=>simp [Addr.add]
  rw [e1] at this
  simpa using this
end
end Go.Proofs.YtmejbfmhaoilmaaGreat
/- What is proved: what can be reached in a tree, by a stack and by rounds, in plain Lean. No condition. -/
namespace Go.Proofs.YtmejbfmhaoilmaaGreat
open Go Go.RowKit
set_option linter.unusedVariables false
set_option linter.unusedSimpArgs false
inductive sT (xs : List aF) (r : Nat) : Nat → Prop
  | refl:sT xs r r
  | step {i q:Nat}{x:aF}{e:aQ}:sT xs r i→xs[i]? =some x→x.ents[q]? =some e→sT xs r e.ino.toNat
noncomputable def aDj (xs:List aF) (r:Nat):Int→Bool:=fun a=> @decide (sT xs r a.toNat) (Classical.propDecidable _)
noncomputable def rC (xs:List aF) (r:Nat):List Int:=dN (aDj xs r) xs.length
theorem aDg {xs:List aF}{r:Nat}{a:Int}:aDj xs r a=true↔sT xs r a.toNat:=by
  unfold aDj
  exact @decide_eq_true_iff _ (Classical.propDecidable _)
abbrev On (b:List Bool) (i:Nat):Prop:=b[i]? =some true
theorem xE {b:List Bool}{j i:Nat} (hj:j<b.length):On (b.set j true) i↔(i=j∨On b i):=by
  unfold On
  rw [List.getElem?_set]
  by_cases h:j=i
  · subst h;simp [hj]
  · rw [if_neg h]
    constructor
    · exact .inr
    · rintro (rfl | h2)
      · exact absurd rfl h
      · exact h2
theorem zS {xs:List aF}{r:Nat}{S:Nat→Prop} (h0:S r) (hc:∀(i q:Nat) x e,S i→xs[i]? =some x→x.ents[q]? =some e→S e.ino.toNat):∀i,sT xs r i→S i:=fun i h=>by
  induction h with
  | refl=>exact h0
  | step _ hx he ih=>exact hc _ _ _ _ ih hx he
abbrev onP (b:List Bool):Int→Bool:=fun a=>b.getD a.toNat false
theorem aHu {b:List Bool}{k:Nat}{c:Bool} (h:b[k]? =some c):onP b (k:Int)=c:=by
  unfold onP
  rw [Int.toNat_natCast,List.getD_eq_getElem?_getD,h]
  rfl
theorem aDu {xs:List aF}{r:Nat}{b:List Bool}{k:Nat} (h:∀i,On b i↔sT xs r i) (hl:b.length=xs.length) (hk:k=b.length):dN (onP b) k=rC xs r:=by
  unfold rC
  rw [hk,hl]
  refine yC fun a h1 h2=> ?_
  rw [Bool.eq_iff_iff,aDg,←h]
  unfold onP On
  rw [List.getD_eq_getElem?_getD]
  cases hb:b[a.toNat]? with
  | none=>simp
  | some c=>simp
abbrev LeB (b c:List Bool):Prop:=∀i,On b i→On c i
def onN (b:List Bool):Nat:=b.count true
theorem aJa (b:List Bool):onN b≤b.length:=List.count_le_length
theorem aDq : ∀ {b c : List Bool}, b.length = c.length → LeB b c → b = c ∨ onN b < onN c
  | [],[],_,_=> .inl rfl
  | x :: b,y :: c,hl,hle=>by
    have h1:LeB b c:=fun i hi=>by have:=hle (i+1) (by simpa [On] using hi);simpa [On] using this
    have h0:x=true→y=true:=fun hx=>by have:=hle 0 (by simp [On,hx]);simpa [On] using this
    rcases aDq (b:=b) (c:=c) (by simpa using hl) h1 with rfl | h2
    · cases x <;> cases y <;> simp [onN] at h0 ⊢
    · right
      unfold onN at h2 ⊢
      simp only [List.count_cons]
      cases x <;> cases y <;> simp at h0 ⊢ <;> omega
  | [],_ :: _,hl,_=>by simp at hl
  | _ :: _,[],hl,_=>by simp at hl
abbrev Clo (xs:List aF) (b:List Bool):Prop:=∀(i q:Nat) x e,On b i→xs[i]? =some x→x.ents[q]? =some e→On b e.ino.toNat
structure Rnd (xs : List aF) (k : Nat) (b : List Bool) : Prop where
  len:b.length=xs.length
  snd:∀i,On b i→sT xs 0 i
  top:On b 0
  prog:Clo xs b∨k+1≤onN b
structure Mid (xs : List aF) (b0 : List Bool) (i : Nat) (b : List Bool) : Prop where
  len:b.length=xs.length
  snd:∀i,On b i→sT xs 0 i
  le:LeB b0 b
  don:∀(j q:Nat) x e,j<i→On b0 j→xs[j]? =some x→x.ents[q]? =some e→On b e.ino.toNat
theorem aHr {xs:List aF}{k:Nat}{b:List Bool} (h:Rnd xs k b):Mid xs b 0 b:=⟨h.len,h.snd,fun _ h=>h,fun j _ _ _ hj=>absurd hj (Nat.not_lt_zero j)⟩
theorem aHj {xs:List aF}{k i:Nat}{b0 b:List Bool} (h0:Rnd xs k b0) (h:Mid xs b0 i b) (hi:xs.length≤i):Rnd xs (k+1) b:=by
  refine⟨h.len,h.snd,h.le 0 h0.top,?_⟩
  have hd:∀(j q:Nat) x e,On b0 j→xs[j]? =some x→x.ents[q]? =some e→On b e.ino.toNat:=fun j q x e hj hx hq=>h.don j q x e (by have:=(List.getElem?_eq_some_iff.1 hx).1;omega) hj hx hq
  rcases aDq (h0.len.trans h.len.symm) h.le with rfl | hlt
  · exact .inl hd
  · rcases h0.prog with hc | hc
    · exfalso
      have:b0=b:=by
        have hle:LeB b b0:=fun j hj=>zS h0.top hc j (h.snd j hj)
        rcases aDq (h.len.trans h0.len.symm) hle with h1 | h1
        · exact h1.symm
        · omega
      subst this
      omega
    · exact .inr (by omega)
theorem aJd {xs:List aF}{k:Nat}{b:List Bool} (h:Rnd xs k b) (hk:xs.length≤k):∀i,On b i↔sT xs 0 i:=by
  have hc:Clo xs b:=h.prog.elim id (fun h1=>by have:=aJa b;have:=h.len;omega)
  exact fun i=>⟨h.snd i,zS h.top hc i⟩
structure Inn (xs : List aF) (b0 : List Bool) (i : Nat) (x : aF) (q : Nat) (b : List Bool) : Prop where
  mid:Mid xs b0 i b
  don:∀(j:Nat) e,j<q→x.ents[j]? =some e→On b e.ino.toNat
theorem aHx {xs:List aF}{b0 b:List Bool}{i:Nat}{x:aF} (h:Mid xs b0 i b):Inn xs b0 i x 0 b:=⟨h,fun j _ hj=>absurd hj (Nat.not_lt_zero j)⟩
theorem aHv {xs:List aF}{b0 b:List Bool}{i q:Nat}{x:aF}{e:aQ} (h:Inn xs b0 i x q b) (hx:xs[i]? =some x) (he:x.ents[q]? =some e) (hb:On b i) (hl:e.ino.toNat<b.length):Inn xs b0 i x (q+1) (b.set e.ino.toNat true):=by
  have up:∀j,On b j→On (b.set e.ino.toNat true) j:=fun j hj=>(xE hl).2 (.inr hj)
  refine⟨⟨by rw [List.length_set];exact h.mid.len,fun j hj=> ?_,fun j hj=>up j (h.mid.le j hj),fun j p y d hj hb0 hy hd=>up _ (h.mid.don j p y d hj hb0 hy hd)⟩,fun j d hj hd=> ?_⟩
  · rcases (xE hl).1 hj with rfl | h1
    · exact .step (h.mid.snd i hb) hx he
    · exact h.mid.snd j h1
  · by_cases hq : j < q
    · exact up _ (h.don j d hq hd)
    · obtain rfl : j = q := by omega
      rw [he] at hd
      obtain rfl:=Option.some.inj hd
      exact(xE hl).2 (.inl rfl)
theorem aBv {xs:List aF}{b0 b:List Bool}{i q:Nat}{x:aF} (h:Inn xs b0 i x q b) (hx:xs[i]? =some x) (hq:On b i→x.ents.length≤q):Mid xs b0 (i+1) b:=by
  refine⟨h.mid.len,h.mid.snd,h.mid.le,fun j p y d hj hb0 hy hd=> ?_⟩
  by_cases hji:j<i
  · exact h.mid.don j p y d hji hb0 hy hd
  · obtain rfl : j = i := by omega
    rw [hx] at hy
    obtain rfl:=Option.some.inj hy
    have:=hq (h.mid.le _ hb0)
    exact h.don p d (by have:=(List.getElem?_eq_some_iff.1 hd).1;omega) hd
theorem aH7 {xs:List aF} (h0:0<xs.length):Rnd xs 0 ((List.replicate xs.length false).set 0 true):=by
  have hl:0<(List.replicate xs.length false).length:=by simpa using h0
  refine⟨by simp,fun i hi=> ?_,(xE hl).2 (.inl rfl),.inr ?_⟩
  · rcases (xE hl).1 hi with rfl | h1
    · exact .refl
    · exfalso
      unfold On at h1
      rw [List.getElem?_replicate] at h1
      split at h1 <;> simp at h1
  · cases hn:xs.length with
    | zero=>omega
    | succ n=>simp [List.replicate_succ,onN]
theorem zR {f:DFs} (h:bX f=0):∀(j:Nat) x,f.inodes[j]? =some x→uP f.inodes x:=fun _ _ hx=>aIs (rI h).2.2.2 hx
theorem aH2 {f:DFs} (h:bX f=0):0<f.inodes.length:=(tA (rI h).1).2.1
end Go.Proofs.YtmejbfmhaoilmaaGreat
/- What is proved: a whole file system's fault, the bytes of a file, in plain Lean. No condition. -/
namespace Go.Proofs.YtmejbfmhaoilmaaGreat
open Go Go.RowKit
set_option linter.unusedVariables false
set_option linter.unusedSimpArgs false
def fF (a b:Int):Int:=if a<b then a else b
theorem lL (a b:Int):fF a b≤a∧fF a b≤b∧(fF a b=a∨fF a b=b):=by unfold fF;split <;> omega
theorem aGm {a b:Int} (h:a<b):fF a b=a:=if_pos h
theorem aG3 {a b:Int} (h:¬a<b):fF a b=b:=if_neg h
def lK (x : aF) (L : List Int) : Nat → List Int
  | 0=>L
  | q+1=>match x.blocks[q]? with | some b=>(lK x L q).set b.toNat (fF 8 (x.size - ((q * 8:Nat):Int))) | none=>lK x L q
def gU (xs : List aF) : Nat → List Int
  | 0=>List.replicate 20 0
  | k+1=>match xs[k]? with | some x=>lK x (gU xs k) x.blocks.length | none=>gU xs k
theorem aIl {x:aF}{L:List Int}{q:Nat}{b:Int} (h:x.blocks[q]? =some b):(lK x L q).set b.toNat (fF 8 (x.size - ((q * 8:Nat):Int)))=lK x L (q+1):=by simp only [lK,h]
theorem aGp {xs:List aF}{k q:Nat}{x:aF} (h:xs[k]? =some x) (hq:x.blocks.length≤q) (hq2:q≤x.blocks.length):lK x (gU xs k) q=gU xs (k+1):=by
  have:q=x.blocks.length:=by omega
  subst this
  simp only [gU,h]
theorem sO {x : aF} {L : List Int} : ∀ q, (lK x L q).length = L.length
  | 0=>rfl
  | q+1=>by
    simp only [lK]
    split
    · rw [List.length_set];exact sO q
    · exact sO q
theorem nT {xs : List aF} : ∀ k, (gU xs k).length = 20
  | 0=>by simp [gU]
  | k+1=>by
    simp only [gU]
    split
    · rw [sO];exact nT k
    · exact nT k
theorem aIn {x:aF} (h:bV x=0):0≤x.size∧x.size≤32:=by
  unfold bV at h
  split at h
  · split at h
    · exact absurd h (by decide)
    · split at h
      · unfold fW at h
        split at h
        · rename_i h1;exact h1.2
        · exact absurd h (by decide)
      · omega
  · exact absurd h (by decide)
theorem aIy {x:aF} (h:bV x=0):0≤x.kind∧x.kind≤2:=by
  unfold bV at h
  split at h
  · assumption
  · exact absurd h (by decide)
abbrev tI (f:DFs):List Int:=gU f.inodes f.inodes.length
def oA (f:DFs):Prop:=∀(j:Nat) (b:List UInt8),f.data[j]? =some b→(tI f)[j]? =some (b.length:Int)
noncomputable instance (f:DFs):Decidable (oA f):=Classical.propDecidable _
theorem aIm {f:DFs}{k:Nat}{b:List UInt8}{n:Int} (hb:f.data[k]? =some b) (hn:(tI f)[k]? =some n) (h:¬(b.length:Int)=n):¬oA f:=fun hd=>by
  have:=hd k b hb
  rw [hn] at this
  exact h (Option.some.inj this).symm
theorem aB8 {f:DFs}{k:Nat} (hk:f.data.length≤k) (ha:∀(j:Nat) (b:List UInt8),j<k→f.data[j]? =some b→(tI f)[j]? =some (b.length:Int)):oA f:=fun j b hb=>ha j b (by have:=(List.getElem?_eq_some_iff.1 hb).1;omega) hb
theorem aKi {f:DFs}{k:Nat}{b:List UInt8}{n:Int} (ha:∀(j:Nat) (b:List UInt8),j<k→f.data[j]? =some b→(tI f)[j]? =some (b.length:Int)) (hb:f.data[k]? =some b) (hn:(tI f)[k]? =some n) (h:(b.length:Int)=n):∀(j:Nat) (b:List UInt8),j<k+1→f.data[j]? =some b→(tI f)[j]? =some (b.length:Int):=
  eM (q:=fun j (b:List UInt8)=>(tI f)[j]? =some (b.length:Int)) ha hb (by rw [hn,h])
structure rT (f : DFs) (j : Nat) (x : aF) : Prop where
  file:x.kind=1→x.links=(eL f.inodes (j:Int):Int)
  root:x.kind=2→j=0→(eL f.inodes (j:Int):Int)=0
  dir:x.kind=2→0<j→(eL f.inodes (j:Int):Int)=1
  way:¬x.kind=0→(j:Int)∈rC f.inodes 0
def mJ (f:DFs):Prop:=∀(j:Nat) (x:aF),f.inodes[j]? =some x→rT f j x
noncomputable instance (f:DFs):Decidable (mJ f):=Classical.propDecidable _
theorem mP {f:DFs}{k:Nat} (hk:f.inodes.length≤k) (ha:∀j x,j<k→f.inodes[j]? =some x→rT f j x):mJ f:=fun j x hx=>ha j x (by have:=(List.getElem?_eq_some_iff.1 hx).1;omega) hx
noncomputable def xQ (f:DFs):Int:=if mJ f then 0 else 1
noncomputable def aGq (f:DFs):Int:=if oA f then 0 else 1
theorem aCm {f:DFs} (h:¬mJ f):xQ f=1:=if_neg h
theorem aH0 {f:DFs} (h:mJ f):xQ f=0:=if_pos h
theorem aJc {f:DFs} (h:¬oA f):aGq f=1:=if_neg h
theorem aI4 {f:DFs} (h:oA f):aGq f=0:=if_pos h
noncomputable def fJ (f:DFs):Int:=if bX f=0 then if mJ f∧oA f then 0 else 1 else bX f
theorem sE {f:DFs} (h:¬bX f=0):fJ f=bX f:=if_neg h
theorem jY {f:DFs} (h:bX f=0) (h2:¬mJ f∨¬oA f):fJ f=1:=by unfold fJ;rw [if_pos h,if_neg (fun hh=>h2.elim (fun k=>k hh.1) (fun k=>k hh.2))]
theorem pO {f:DFs} (h:bX f=0) (h2:mJ f) (h3:oA f):fJ f=0:=by unfold fJ;rw [if_pos h,if_pos ⟨h2,h3⟩]
theorem sD {f:DFs} (h:bX f=0) (h2:¬xQ f=0):fJ f=xQ f:=by
  by_cases hl:mJ f
  · exact absurd (aH0 hl) h2
  · rw [jY h (.inl hl),aCm hl]
theorem sF {f:DFs} (h:bX f=0) (h2:xQ f=0):fJ f=aGq f:=by
  by_cases hl:mJ f
  · by_cases hd : oA f
    · rw [pO h hl hd,aI4 hd]
    · rw [jY h (.inr hd),aJc hd]
  · rw [aCm hl] at h2;exact absurd h2 (by decide)
theorem xF {f:DFs} (h:fJ f=0):bX f=0:=by
  unfold fJ at h
  split at h
  · assumption
  · contradiction
noncomputable def dO (f:DFs) (a:Int):Int:=if fJ f=0 then if bR f.inodes.length a then if aR f.inodes a=2 then 9 else if aR f.inodes a=0 then 4 else 0 else 3 else fJ f
theorem iH {f:DFs}{a:Int} (h:¬fJ f=0):dO f a=fJ f:=if_neg h
theorem iD {f:DFs}{a:Int} (h:fJ f=0) (h2:¬bR f.inodes.length a):dO f a=3:=by unfold dO;rw [if_pos h,if_neg h2]
theorem iE {f:DFs}{a:Int} (h:fJ f=0) (h2:bR f.inodes.length a) (h3:aR f.inodes a=2):dO f a=9:=by unfold dO;rw [if_pos h,if_pos h2,if_pos h3]
theorem iG {f:DFs}{a:Int} (h:fJ f=0) (h2:bR f.inodes.length a) (h3:¬aR f.inodes a=2) (h4:aR f.inodes a=0):dO f a=4:=by unfold dO;rw [if_pos h,if_pos h2,if_neg h3,if_pos h4]
theorem nE {f:DFs}{a:Int} (h:fJ f=0) (h2:bR f.inodes.length a) (h3:¬aR f.inodes a=2) (h4:¬aR f.inodes a=0):dO f a=0:=by unfold dO;rw [if_pos h,if_pos h2,if_neg h3,if_neg h4]
theorem aBa {f:DFs}{a:Int} (h:dO f a=0):fJ f=0∧bR f.inodes.length a∧¬aR f.inodes a=2∧¬aR f.inodes a=0:=by
  unfold dO at h
  split at h
  · split at h
    · split at h
      · exact absurd h (by decide)
      · split at h
        · exact absurd h (by decide)
        · rename_i h1 h2 h3 h4;exact⟨h1,h2,h3,h4⟩
    · exact absurd h (by decide)
  · contradiction
def yN (data:List (List UInt8)) (b:Int):List UInt8:=data.getD b.toNat []
def kP (data:List (List UInt8)) (bs:List Int) (k:Nat):List UInt8:=((bs.take k).map (yN data)).flatten
def fM (xs:List aF) (a:Int):List Int:=match xs[a.toNat]? with | some x=>x.blocks | none=> []
theorem sC {xs:List aF}{a:Int}{j:Nat}{x:aF} (hx:xs[j]? =some x) (h:a=(j:Int)):fM xs a=x.blocks:=by
  subst h
  unfold fM
  rw [Int.toNat_natCast,hx]
def cQ (f:DFs) (a:Int):List UInt8:=kP f.data (fM f.inodes a) (fM f.inodes a).length
theorem aE6 {data:List (List UInt8)}{bs:List Int}{k:Nat}{b:Int}{d:List UInt8} (hb:bs[k]? =some b) (hd:data[b.toNat]? =some d):kP data bs k++d=kP data bs (k+1):=by
  unfold kP
  rw [←jX hb,List.map_append,List.flatten_append]
  simp [yN,hd]
theorem aCo {data:List (List UInt8)}{bs:List Int}{k:Nat} (h:bs.length≤k):kP data bs k=kP data bs bs.length:=by
  unfold kP;rw [List.take_of_length_le h,List.take_length]
theorem wB {data:List (List UInt8)}{bs:List Int} (k:Nat) (h4:bs.length≤4) (h8:∀d,d∈data→d.length≤8):(kP data bs k).length≤32:=by
  unfold kP
  have h1:(bs.take k).length≤4:=by rw [List.length_take];omega
  have h2:∀l:List Int,((l.map (yN data)).flatten).length≤l.length * 8:=by
    intro l
    induction l with
    | nil=>simp
    | cons b l ih=>
      have:(yN data b).length≤8:=by
        unfold yN
        rw [List.getD_eq_getElem?_getD]
        cases hd:data[b.toNat]? with
        | none=>simp
        | some d=>simpa using h8 d (List.mem_of_getElem? hd)
      simp only [List.map_cons,List.flatten_cons,List.length_append,List.length_cons]
      omega
  have:=h2 (bs.take k)
  omega
theorem aDi {f:DFs} (h:bX f=0):∀d,d∈f.data→d.length≤8:=fun d hd=>by
  have h1:=(rI h).2.1
  unfold xX at h1
  rw [List.any_eq_false] at h1
  have:=h1 d hd
  simp only [decide_eq_true_eq] at this
  omega
theorem qN {f:DFs} (h:bX f=0):f.data.length=20:=(tA (rI h).1).2.2.2
noncomputable def lG (f:DFs) (a:Int):aDc:=if dO f a=0 then⟨0,cQ f a⟩else⟨dO f a,[]⟩
theorem eW {f:DFs}{a:Int} (h:¬dO f a=0):lG f a=⟨dO f a,[]⟩:=if_neg h
theorem kG {f:DFs}{a:Int} (h:dO f a=0):lG f a=⟨0,cQ f a⟩:=if_pos h
end Go.Proofs.YtmejbfmhaoilmaaGreat
/- What is proved: arrays of whole numbers in memory and as values; the lesser of two numbers. No condition. -/
namespace Go.Proofs.YtmejbfmhaoilmaaGreat
open Go Go.RowKit
set_option linter.unusedVariables false
set_option linter.unusedSimpArgs false
section
variable {P:Program}{T:eZ}{Wd:World→Prop}{o:Oper}{x y:Operand}{t e:TypeId}
end
end Go.Proofs.YtmejbfmhaoilmaaGreat
/- What is proved: one element of a slice of one's own, taken out and put back; a part of a slice of one's own, read; a row's cells as a slice of structs. No condition. -/
namespace Go.Proofs.YtmejbfmhaoilmaaGreat
open Go Go.RowKit
set_option linter.unusedVariables false
set_option linter.unusedSimpArgs false
theorem aBd {α : Type} {K : Kd α} : ∀ {xs : List α} {css : List (List Value)} {j : Nat} {x : α} {c : List Value}, xs[j]? = some x → css[j]? = some c → iW K xs css = iW K (xs.take j) (css.take j) ++ aG K x c :: iW K (xs.drop (j + 1)) (css.drop (j + 1))
  | [],_,_,_,_,hx,_=>by simp at hx
  | _,[],_,_,_,_,hc=>by simp at hc
  | y :: xs,d :: css,0,x,c,hx,hc=>by
    simp at hx hc
    subst hx;subst hc
    rfl
  | y :: xs,d :: css,j+1,x,c,hx,hc=>by
    have ih:=aBd (K:=K) (xs:=xs) (css:=css) (j:=j) (x:=x) (c:=c) (by simpa using hx) (by simpa using hc)
    rw [aFp,ih]
    rfl
theorem cW {α:Type}{K:Kd α}{xs:List α}{css:List (List Value)}{j:Nat}{x:α}{c:List Value} (hx:xs[j]? =some x) (hc:css[j]? =some c) (w:World) (S:Bs) (h:(lX K xs css).p w S):cB [aG K x c,lX K (xs.take j) (css.take j),lX K (xs.drop (j+1)) (css.drop (j+1))] w S:=by
  have h1:cB (iW K xs css) w S:=h
  rw [aBd hx hc] at h1
  obtain⟨A,B,hA,⟨B1,B2,h2,h3,i1,i2,d1⟩,i,k,d⟩:=h1.split
  exact⟨B1,fun b=>A b∨B2 b,h2,⟨A,B2,hA,cB.one (c:=lX K _ _) h3,fun _ h=> .inl h,fun _ h=> .inr h,fun b ha hb=>d b ha (i2 b hb)⟩,fun b hb=>k b (i1 b hb),fun b hb=>hb.elim (i b) (fun h=>k b (i2 b h)),fun b hb hb2=>hb2.elim (fun h=>d b h (i1 b hb)) (d1 b hb)⟩
theorem aBo {α:Type}{K:Kd α}{xs:List α}{css:List (List Value)}{j:Nat}{x:α}{c:List Value} (hx:xs[j]? =some x) (hc:css[j]? =some c) (w:World) (S:Bs) (h:cB [aG K x c,lX K (xs.take j) (css.take j),lX K (xs.drop (j+1)) (css.drop (j+1))] w S):(lX K xs css).p w S:=by
  obtain⟨B1,C,h2,⟨A,B2,hA,h3,i1,i2,d1⟩,i,k,d⟩:=h
  show cB (iW K xs css) w S
  rw [aBd hx hc]
  have h3':cB (iW K (xs.drop (j+1)) (css.drop (j+1))) w B2:=cB.head (c:=lX K _ _) h3
  exact cB.app hA ⟨B1,B2,h2,h3',fun _ h=> .inl h,fun _ h=> .inr h,fun b hb hb2=>d b hb (i2 b hb2)⟩ (S2:=fun b=>B1 b∨B2 b) (fun b hb=>k b (i1 b hb)) (fun b hb=>hb.elim (i b) (fun h=>k b (i2 b h))) (fun b ha hb=>hb.elim (fun h=>d b h (i1 b ha)) (d1 b ha))
theorem dQ {α : Type} {K : Kd α} {e by_ : Nat} {xs : List α} {css css' : List (List Value)} {j : Nat} {x : α} {c : List Value} {v : Value} (hl : css.length = xs.length) (hj : j < xs.length) (he : css' = css.set j c) (w : World) (S : Bs)
    (h:cB [aG (bA e by_ (mM K.sz K.pos)) css' [v],aG K x c,lX K (xs.take j) (css.take j),lX K (xs.drop (j+1)) (css.drop (j+1))] w S):(aG (bA e by_ K) (xs.set j x) [v]).p w S:=by
  subst he
  obtain⟨A,B,hA,hB,i,k,d⟩:=h
  refine aE3 (xs:=xs.set j x) (css:=css.set j c) (by rw [List.length_set,List.length_set];exact hl) w S ⟨A,B,hA,cB.one (c:=lX K _ _) (aBo (j:=j) (x:=x) (c:=c) (by rw [List.getElem?_set_self hj]) (by rw [List.getElem?_set_self (by omega)]) w B ?_),i,k,d⟩
  rw [List.take_set_of_le (Nat.le_refl j),List.take_set_of_le (Nat.le_refl j),List.drop_set_of_lt (Nat.lt_succ_self j),List.drop_set_of_lt (Nat.lt_succ_self j)]
  exact hB
theorem bU {α : Type} {K : Kd α} {e by_ : Nat} {xs : List α} {css : List (List Value)} {j : Nat} {x : α} {c : List Value} {v : Value} (hl : css.length = xs.length) (hx : xs[j]? = some x) (hc : css[j]? = some c) (w : World) (S : Bs)
    (h:cB [aG (bA e by_ (mM K.sz K.pos)) css [v],aG K x c,lX K (xs.take j) (css.take j),lX K (xs.drop (j+1)) (css.drop (j+1))] w S):(aG (bA e by_ K) xs [v]).p w S:=by
  obtain⟨A,B,hA,hB,i,k,d⟩:=h
  exact aE3 hl w S ⟨A,B,hA,cB.one (c:=lX K _ _) (aBo hx hc w B hB),i,k,d⟩
theorem yO {α:Type}{K:Kd α}{e by_ g sz:Nat}{x:α}{cs:List Value} (hsz:K.sz=sz) (hl:cs.length=sz) (hb:by_≤140737488355328) (w:World) (S:Bs) (h:cB [cM g e sz 1 cs,aG K x cs] w S):(aG (bA e by_ K) [x] [.slice (some ⟨g,0,none⟩) 1 1]).p w S:=by
  subst hsz
  obtain⟨A,B,hA,hB,i,k,d⟩:=h
  exact .inr ⟨g,1,[cs],rfl,Nat.le_refl _,by omega,by simpa using hb,rfl,A,B,by simpa using hA,⟨B,fun _=>False,cB.head (c:=aG K x cs) hB,trivial,fun _ h=>h,fun _ h=>h.elim,fun _ _ h=>h⟩,i,k,d⟩
theorem Tr.ptrpre {w0:World}{S0:Bs}{l':List Asn}{α:Type}{K:Kd α}{w:World}{S1:Bs}{lr:List Asn}{g e sz c:Nat}{ecs cs:List Value}{x:α} (tr:Tr w0 S0 w S1 lr) (tk:fP lr (cM g e sz c ecs) l') (hr:K.ro w (FF w S1) x cs) (hs:∀(i:Nat) (u:Value),cs[i]? =some u→ecs[i]? =some u):gP K w (FF w S1) ⟨g,0,none⟩ x:=by
  obtain⟨S2,hst,hsub⟩:=tr.all
  have h:=(hst.take tk).head
  refine⟨cs,hsub _ h.1,hr,fun i u hu=> ?_⟩
  rw [fO]
  exact nW h (hs i u hu)
section
variable {P:Program}{T:eZ}{Wd:World→Prop}{o:Oper}
theorem kZ {x:Operand}{s f:Nat}{v u:Value} (ho:o.op= .field s x f) (hx:Val T x v) (hs:∀w,(Instr.field s v f).run P w= .ok u w):eT P o T Wd u:=fun a w ha _=>by
  simp only [execOp,ho,hx a ha];simp [hs w]
end
end Go.Proofs.YtmejbfmhaoilmaaGreat
/- What is proved: new trees, reading files, dropping them, in plain Lean. No condition. -/
namespace Go.Proofs.YtmejbfmhaoilmaaGreat
open Go Go.RowKit
set_option linter.unusedVariables false
set_option linter.unusedSimpArgs false
theorem sJ {xs:List aF} (h:bJ xs=0) (a:Int):∀b,b∈fM xs a→0≤b∧b≤19:=by
  unfold fM
  cases hx:xs[a.toNat]? with
  | none=>intro b hb;cases hb
  | some x=>exact(nX (dT h x (List.mem_of_getElem? hx))).2
theorem aF4 {xs:List aF} (h:bJ xs=0) (a:Int):(fM xs a).length≤4:=by
  unfold fM
  cases hx:xs[a.toNat]? with
  | none=>simp
  | some x=>exact(nX (dT h x (List.mem_of_getElem? hx))).1
theorem uZ {f:DFs} (h:bX f=0) (a:Int):(cQ f a).length≤32:=wB _ (aF4 (iY h) a) (aDi h)
theorem vB (a b:Int):fF a b=fF b a:=by have:=lL a b;have:=lL b a;omega
def zL (L:List UInt8) (i n:Int):List UInt8:=fY L (fF i L.length).toNat (fF L.length (fF i L.length+n)).toNat
noncomputable def qR (f:DFs) (a i n:Int):aDc:=if dO f a=0 then if(0≤i∧i≤1000)∧(0≤n∧n≤100)then⟨0,zL (cQ f a) i n⟩else⟨3,[]⟩else⟨dO f a,[]⟩
theorem aI0 {f:DFs}{a i n:Int} (h:¬dO f a=0):qR f a i n=⟨dO f a,[]⟩:=if_neg h
theorem uW {f:DFs}{a i n:Int} (h:dO f a=0) (h2:¬((0≤i∧i≤1000)∧(0≤n∧n≤100))):qR f a i n=⟨3,[]⟩:=by unfold qR;rw [if_pos h,if_neg h2]
theorem uA {f:DFs}{a i n:Int} (h:dO f a=0) (h2:(0≤i∧i≤1000)∧(0≤n∧n≤100)):qR f a i n=⟨0,zL (cQ f a) i n⟩:=by unfold qR;rw [if_pos h,if_pos h2]
theorem rK {f:DFs}{a:Int}:(lG f a).code=dO f a:=by
  unfold lG;split
  · rename_i h;exact h.symm
  · rfl
theorem aAu {f:DFs}{a:Int} (h:(lG f a).code=0):dO f a=0:=by rwa [rK] at h
theorem aA0 {f:DFs}{a:Int} (h:¬(lG f a).code=0):¬dO f a=0:=by rwa [rK] at h
theorem aAa {f:DFs}{a:Int} (h:dO f a=0):(lG f a).bytes=cQ f a:=by rw [kG h]
theorem uG {f:DFs}{a i n:Int} (h:¬dO f a=0):qR f a i n=lG f a:=by rw [aI0 h,eW h]
def oU (data : List (List UInt8)) (bs : List Int) : Nat → List (List UInt8)
  | 0=>data
  | k+1=>match bs[k]? with | some b=>(oU data bs k).set b.toNat [] | none=>oU data bs k
theorem aAg {data:List (List UInt8)}{bs:List Int}{k:Nat}{b:Int} (h:bs[k]? =some b):(oU data bs k).set b.toNat []=oU data bs (k+1):=by simp only [oU,h]
theorem lR {data : List (List UInt8)} {bs : List Int} : ∀ k, (oU data bs k).length = data.length
  | 0=>rfl
  | k+1=>by
    simp only [oU]
    split
    · rw [List.length_set];exact lR k
    · exact lR k
abbrev iZ (f:DFs) (a:Int):List (List UInt8):=oU f.data (fM f.inodes a) (fM f.inodes a).length
abbrev sX (f:DFs) (a:Int):DFs:=⟨f.inodes.set a.toNat ⟨0,0,0,[],[]⟩,iZ f a⟩
end Go.Proofs.YtmejbfmhaoilmaaGreat
/- What is proved: names taken out of a directory, in plain Lean. No condition. -/
namespace Go.Proofs.YtmejbfmhaoilmaaGreat
open Go Go.RowKit
set_option linter.unusedVariables false
set_option linter.unusedSimpArgs false
abbrev hJ {α:Type} (p:α→Bool):α→Bool:=fun e=> !p e
theorem kN {α:Type}{p:α→Bool}{xs:List α} (h:¬eS p xs= -1):∃i:Nat,eS p xs=(i:Int)∧i<xs.length∧(xs.take (i+1)).filter (hJ p)=xs.take i:=by
  unfold eS at h ⊢
  cases hf:xs.findIdx? p with
  | none=>rw [hf] at h;exact absurd rfl h
  | some i=>
    obtain⟨hi,hp,hn⟩:=List.findIdx?_eq_some_iff_getElem.1 hf
    refine⟨i,rfl,hi,?_⟩
    rw [←jX (List.getElem?_eq_getElem hi),List.filter_append]
    have h1: [xs[i]].filter (hJ p)= []:=by simp [hJ,hp]
    rw [h1,List.append_nil,List.filter_eq_self]
    intro x hx
    obtain⟨j,hj,rfl⟩:=List.mem_take_iff_getElem.1 hx
    have:=hn j (by omega)
    simpa [hJ] using this
theorem aI9 {α:Type}{p:α→Bool}{xs:List α} (h:¬eS p xs= -1):0<xs.length:=by
  obtain⟨i,_,h2,_⟩:=kN h
  omega
theorem aF3 {α:Type}{p:α→Bool}{xs:List α} (h:eS p xs= -1):xs=xs.filter (hJ p):=by
  unfold eS at h
  cases hf:xs.findIdx? p with
  | some i=>rw [hf] at h;simp only at h;omega
  | none=>
    refine(List.filter_eq_self.2 fun x hx=> ?_).symm
    have:=List.findIdx?_eq_none_iff.1 hf x hx
    simp [hJ,this]
structure aCx {α : Type} (p : α → Bool) (xs : List α) (j i : Nat) (L : List α) : Prop where
  len:L.length=xs.length
  le:i≤j
  head:L.take i=(xs.take j).filter (hJ p)
  tail:L.drop j=xs.drop j
theorem aE7 {α:Type}{p:α→Bool}{xs:List α}{i:Nat} (h:(xs.take (i+1)).filter (hJ p)=xs.take i):aCx p xs (i+1) i xs:=⟨rfl,by omega,h.symm,rfl⟩
theorem aCb {α:Type}{p:α→Bool}{xs L:List α}{i j:Nat}{y:α} (h:aCx p xs j i L) (hy:L[j]? =some y):xs[j]? =some y:=by
  have:=congrArg (fun l=>l[0]?) h.tail
  simpa [hy] using this.symm
theorem aF2 {α:Type}{p:α→Bool}{xs L:List α}{i j:Nat}{y:α} (h:aCx p xs j i L) (hy:L[j]? =some y) (hp:p y=false) (hi:i<j):aCx p xs (j+1) (i+1) (L.set i y):=by
  have hx:=aCb h hy
  have hl:=h.len
  have hj:=(List.getElem?_eq_some_iff.1 hy).1
  refine⟨by rw [List.length_set];exact hl,by omega,?_,?_⟩
  · have:(L.set i y).take (i+1)=L.take i++ [y]:=by
      rw [List.take_add_one,List.getElem?_set_self (by omega),List.take_set_of_le (Nat.le_refl i)];rfl
    rw [this,←jX hx,List.filter_append,←h.head]
    simp [hJ,hp]
  · rw [List.drop_set_of_lt (by omega)]
    have:=congrArg (List.drop 1) h.tail
    simpa [List.drop_drop] using this
theorem aHt {α:Type}{p:α→Bool}{xs L:List α}{i j:Nat}{y:α} (h:aCx p xs j i L) (hy:L[j]? =some y) (hp:p y=true):aCx p xs (j+1) i L:=by
  have hx:=aCb h hy
  refine⟨h.len,by have:=h.le;omega,?_,?_⟩
  · rw [← jX hx, List.filter_append, ← h.head]
    simp [hJ,hp]
  · have := congrArg (List.drop 1) h.tail
    simpa [List.drop_drop] using this
theorem aGf {α:Type}{p:α→Bool}{xs L:List α}{i j:Nat} (h:aCx p xs j i L) (hj:xs.length≤j):L.take i=xs.filter (hJ p):=by
  rw [h.head,List.take_of_length_le hj]
def eD (xs:List aF) (a:Int) (es:List aQ):List aF:=match xs[a.toNat]? with | some y=>xs.set a.toNat ⟨y.kind,y.links,y.size,y.blocks,es⟩ | none=>xs
def eO (xs:List aF) (a:Int) (n:Int):List aF:=match xs[a.toNat]? with | some y=>xs.set a.toNat ⟨y.kind,n,y.size,y.blocks,y.ents⟩ | none=>xs
def bP (xs:List aF) (a:Int):Int:=match xs[a.toNat]? with | some x=>x.links | none=>0
theorem nD {xs:List aF}{a:Int}{es:List aQ}{j:Nat}{y:aF} (h:xs[j]? =some y) (hj:a=(j:Int)):xs.set j ⟨y.kind,y.links,y.size,y.blocks,es⟩=eD xs a es:=by
  subst hj;unfold eD;rw [Int.toNat_natCast,h]
theorem oF {xs:List aF}{a n:Int}{j:Nat}{y:aF} (h:xs[j]? =some y) (hj:a=(j:Int)):xs.set j ⟨y.kind,n,y.size,y.blocks,y.ents⟩=eO xs a n:=by
  subst hj;unfold eO;rw [Int.toNat_natCast,h]
theorem dC {xs:List aF}{a:Int}{j:Nat}{x:aF} (hx:xs[j]? =some x) (h:a=(j:Int)):bP xs a=x.links:=by
  subst h;unfold bP;rw [Int.toNat_natCast,hx]
theorem bB {xs:List aF}{a:Int}{es:List aQ}:(eD xs a es).length=xs.length:=by
  unfold eD;split <;> simp
theorem bN {xs:List aF}{a n:Int}:(eO xs a n).length=xs.length:=by
  unfold eO;split <;> simp
theorem lW {xs:List aF}{a:Int}{es:List aQ} (j:Nat):∀y,(eD xs a es)[j]? =some y→∃x,xs[j]? =some x∧y=⟨x.kind,x.links,x.size,x.blocks,if j=a.toNat then es else x.ents⟩:=fun y hy=>by
  unfold eD at hy
  cases h:xs[a.toNat]? with
  | none=>
    rw [h] at hy
    refine⟨y,hy,?_⟩
    rw [if_neg (fun e=>by subst e;rw [h] at hy;cases hy)]
  | some x=>
    rw [h] at hy
    simp only at hy
    rw [List.getElem?_set] at hy
    split at hy
    · rename_i e
      split at hy
      · obtain rfl := Option.some.inj hy
        refine⟨x,by rw [←e];exact h,by rw [if_pos e.symm]⟩
      · cases hy
    · rename_i e
      exact⟨y,hy,by rw [if_neg (fun e2=>e e2.symm)]⟩
theorem vH {xs:List aF}{a n:Int} (j:Nat):∀y,(eO xs a n)[j]? =some y→∃x,xs[j]? =some x∧y=⟨x.kind,if j=a.toNat then n else x.links,x.size,x.blocks,x.ents⟩:=fun y hy=>by
  unfold eO at hy
  cases h:xs[a.toNat]? with
  | none=>
    rw [h] at hy
    refine⟨y,hy,?_⟩
    rw [if_neg (fun e=>by subst e;rw [h] at hy;cases hy)]
  | some x=>
    rw [h] at hy
    simp only at hy
    rw [List.getElem?_set] at hy
    split at hy
    · rename_i e
      split at hy
      · obtain rfl := Option.some.inj hy
        refine⟨x,by rw [←e];exact h,by rw [if_pos e.symm]⟩
      · cases hy
    · rename_i e
      exact⟨y,hy,by rw [if_neg (fun e2=>e e2.symm)]⟩
theorem lE {xs:List aF}{a k:Int}{es:List aQ}:aR (eD xs a es) k=aR xs k:=by
  unfold aR
  cases h:(eD xs a es)[k.toNat]? with
  | none=>
    rw [List.getElem?_eq_none_iff,bB] at h
    rw [List.getElem?_eq_none h]
  | some y=>
    obtain⟨x,hx,rfl⟩:=lW _ y h
    rw [hx]
theorem oS {xs:List aF}{a k:Int}{es:List aQ}:bP (eD xs a es) k=bP xs k:=by
  unfold bP
  cases h:(eD xs a es)[k.toNat]? with
  | none=>
    rw [List.getElem?_eq_none_iff,bB] at h
    rw [List.getElem?_eq_none h]
  | some y=>
    obtain⟨x,hx,rfl⟩:=lW _ y h
    rw [hx]
theorem aAi {xs:List aF}{a k:Int}{es:List aQ}:fM (eD xs a es) k=fM xs k:=by
  unfold fM
  cases h:(eD xs a es)[k.toNat]? with
  | none=>
    rw [List.getElem?_eq_none_iff,bB] at h
    rw [List.getElem?_eq_none h]
  | some y=>
    obtain⟨x,hx,rfl⟩:=lW _ y h
    rw [hx]
theorem uN {xs:List aF}{a k n:Int}:fM (eO xs a n) k=fM xs k:=by
  unfold fM
  cases h:(eO xs a n)[k.toNat]? with
  | none=>
    rw [List.getElem?_eq_none_iff,bN] at h
    rw [List.getElem?_eq_none h]
  | some y=>
    obtain⟨x,hx,rfl⟩:=vH _ y h
    rw [hx]
theorem oX {α : Type} (f : α → Nat) : ∀ {xs : List α} {i : Nat} {x y : α}, xs[i]? = some x → fQ f (xs.set i y) + f x = fQ f xs + f y
  | [],_,_,_,h=>by simp at h
  | z :: xs,0,x,y,h=>by simp at h;subst h;simp only [List.set_cons_zero,fQ];omega
  | z :: xs,i+1,x,y,h=>by
    have:=oX f (xs:=xs) (i:=i) (x:=x) (y:=y) (by simpa using h)
    simp only [List.set_cons_succ,fQ];omega
theorem wY {xs:List aF}{a k n:Int}:eL (eO xs a n) k=eL xs k:=by
  unfold eO
  split
  · rename_i y hy
    have:=oX (gB k) (y:=⟨y.kind,n,y.size,y.blocks,y.ents⟩) hy
    unfold eL
    have e:gB k ⟨y.kind,n,y.size,y.blocks,y.ents⟩=gB k y:=rfl
    omega
  · rfl
theorem aHc {α:Type} (f:α→Nat) {xs ys:List α} (h:ys.Sublist xs):fQ f ys≤fQ f xs:=by
  induction h with
  | slnil=>exact Nat.le_refl _
  | cons x _ ih=>simp only [fQ];omega
  | cons_cons x _ ih=>simp only [fQ];omega
theorem aIa {xs:List aF}{a k:Int}{es:List aQ} (h:es.Sublist (aB xs a)):eL (eD xs a es) k≤eL xs k:=by
  unfold eD
  split
  · rename_i y hy
    have h1:=oX (gB k) (y:=⟨y.kind,y.links,y.size,y.blocks,es⟩) hy
    have e:aB xs a=y.ents:=by unfold aB;rw [hy]
    rw [e] at h
    have h2:gB k ⟨y.kind,y.links,y.size,y.blocks,es⟩≤gB k y:=aHc _ h
    unfold eL
    omega
  · exact Nat.le_refl _
theorem aBe : ∀ {x y z : List UInt8}, Op.bytesLess x y = true → Op.bytesLess y z = true → Op.bytesLess x z = true
  | x,[],_,h,_=>by cases x <;> simp [Op.bytesLess] at h
  | _,_ :: _,[],_,h=>by simp [Op.bytesLess] at h
  | [],_ :: _,_ :: _,_,_=>rfl
  | a :: x,b :: y,c :: z,h1,h2=>by
    simp only [Op.bytesLess,Bool.or_eq_true,decide_eq_true_eq,Bool.and_eq_true,beq_iff_eq] at *
    rcases h1 with h1 |⟨rfl,h1⟩
    · rcases h2 with h2 | ⟨rfl, h2⟩
      · exact .inl (UInt8.lt_trans h1 h2)
      · exact .inl h1
    · rcases h2 with h2 | ⟨rfl, h2⟩
      · exact .inl h2
      · exact .inr ⟨rfl,aBe h1 h2⟩
theorem zA : ∀ x : List UInt8, Op.bytesLess x x = false
  | []=>rfl
  | a :: x=>by simp [Op.bytesLess,zA x]
theorem zX {s t u:ByteArray} (h1:sLt s t=true) (h2:sLt t u=true):sLt s u=true:=aBe h1 h2
theorem xU (s:ByteArray):sLt s s=false:=zA _

theorem aDe {f:Nat→Int}{n:Nat} (h:aA6 f n=0):∀j,j<n→f j=0:=fun j=>by
  induction j using Nat.strongRecOn with
  | _ j ih=>
    intro hj
    apply Classical.byContradiction
    intro hn
    exact hn ((vU hj hn (fun i hi=>ih i hi (by omega))).symm.trans h)
theorem qZ {x:aF} (h:iP x=0):∀(i j:Nat) (e g:aQ),i<j→x.ents[i]? =some e→x.ents[j]? =some g→sLt e.name g.name=true:=by
  unfold iP at h
  split at h
  · exact absurd h (by decide)
  · have h1 : ∀ j, j < x.ents.length → nY x.ents j = 0 := aDe h
    intro i j e g hij he hg
    induction j generalizing g with
    | zero=>omega
    | succ j ih=>
      obtain⟨p,hp⟩:=aI (xs:=x.ents) (j:=j) (by have:=(List.getElem?_eq_some_iff.1 hg).1;omega)
      have h2:=h1 (j+1) (List.getElem?_eq_some_iff.1 hg).1
      have h3:sLt p.name g.name=true:=by
        unfold nY at h2
        rw [hg] at h2
        unfold nM at h2
        simp only at h2
        split at h2
        · split at h2
          · rw [if_neg (by omega), show j + 1 - 1 = j by omega, hp] at h2
            simp only at h2
            split at h2
            · assumption
            · exact absurd h2 (by decide)
          · exact absurd h2 (by decide)
        · contradiction
      by_cases hj:i=j
      · subst hj
        rw [he] at hp
        obtain rfl:=Option.some.inj hp
        exact h3
      · exact zX (ih p (by omega) hp) h3
theorem aHm {es:List aQ}{s:ByteArray}{i:Nat} (hs:∀(i j:Nat) (e g:aQ),i<j→es[i]? =some e→es[j]? =some g→sLt e.name g.name=true) (hi:eS (cA s) es=(i:Int)):es.filter (hJ (cA s))=es.eraseIdx i:=by
  have h:es.findIdx? (cA s)=some i:=by
    unfold eS at hi
    cases hf:es.findIdx? (cA s) with
    | none=>rw [hf] at hi;simp only at hi;omega
    | some k=>rw [hf] at hi;simp only at hi;rw [show k=i by omega]
  obtain⟨hl,hp,hn⟩:=List.findIdx?_eq_some_iff_getElem.1 h
  have hp':es[i].name=s:=of_decide_eq_true hp
  rw [List.eraseIdx_eq_take_drop_succ]
  conv=>lhs;rw [←List.take_append_drop (i+1) es,List.filter_append]
  congr 1
  · rw [← jX (List.getElem?_eq_getElem hl), List.filter_append]
    have h1: [es[i]].filter (hJ (cA s))= []:=by simp [hJ,hp']
    rw [h1,List.append_nil,List.filter_eq_self]
    intro x hx
    obtain⟨j,hj,rfl⟩:=List.mem_take_iff_getElem.1 hx
    have:=hn j (by omega)
    simpa [hJ] using this
  · rw [List.filter_eq_self]
    intro x hx
    obtain⟨j,hj⟩:=List.mem_iff_getElem?.1 hx
    rw [List.getElem?_drop] at hj
    have h2:=hs i (i+1+j) _ _ (by omega) (List.getElem?_eq_getElem hl) hj
    have h3:¬x.name=s:=fun e=>by
      rw [hp',e,xU] at h2
      exact absurd h2 (by decide)
    simp [hJ,h3]
def eY (es:List aQ) (i:Nat):Int:=match es[i]? with | some e=>e.ino | none=> -1
theorem mZ {es:List aQ}{i:Nat}{e:aQ} (h:es[i]? =some e):eY es i=e.ino:=by unfold eY;rw [h]
abbrev bH (f:DFs) (a:Int) (es:List aQ):DFs:=⟨eD f.inodes a es,f.data⟩
def gQ (f:DFs) (k:Int):DFs:=if aR f.inodes k=1 then if 1<bP f.inodes k then⟨eO f.inodes k (bP f.inodes k - 1),f.data⟩else if eL f.inodes k=0 then sX f k else f else f
theorem mT {f:DFs}{k:Int} (h:¬aR f.inodes k=1):gQ f k=f:=if_neg h
theorem mY {f:DFs}{k:Int} (h:aR f.inodes k=1) (h2:1<bP f.inodes k):gQ f k=⟨eO f.inodes k (bP f.inodes k - 1),f.data⟩:=by unfold gQ;rw [if_pos h,if_pos h2]
theorem kL {f:DFs}{k:Int} (h:aR f.inodes k=1) (h2:¬1<bP f.inodes k) (h3:eL f.inodes k=0):gQ f k=sX f k:=by unfold gQ;rw [if_pos h,if_neg h2,if_pos h3]
theorem nP {f:DFs}{k:Int} (h:aR f.inodes k=1) (h2:¬1<bP f.inodes k) (h3:¬eL f.inodes k=0):gQ f k=f:=by unfold gQ;rw [if_pos h,if_neg h2,if_neg h3]
theorem oO {f:DFs}{k n:Int}:sX ⟨eO f.inodes k n,f.data⟩ k=sX f k:=by
  have h:(eO f.inodes k n).set k.toNat ⟨0,0,0,[],[]⟩=f.inodes.set k.toNat ⟨0,0,0,[],[]⟩:=by
    unfold eO
    split
    · rw [List.set_set]
    · rfl
  simp only [sX,iZ,h,uN]
theorem xJ {xs:List aF}{k:Int}:eO xs k (bP xs k)=xs:=by
  unfold eO bP
  cases h:xs[k.toNat]? with
  | none=>rfl
  | some y=>
    obtain⟨hk,rfl⟩:=List.getElem?_eq_some_iff.1 h
    exact List.set_getElem_self hk
theorem vV {xs:List aF}{k m n:Int}:eO (eO xs k m) k n=eO xs k n:=by
  unfold eO
  cases h:xs[k.toNat]? with
  | none=>simp only [h]
  | some y=>
    have hk:=(List.getElem?_eq_some_iff.1 h).1
    simp only [List.getElem?_set_self hk,List.set_set]
abbrev aKx (f:DFs) (a:Int) (s:ByteArray):List aQ:=(aB f.inodes a).eraseIdx (eS (cA s) (aB f.inodes a)).toNat
noncomputable def jJ (f:DFs) (a:Int) (s:ByteArray):RFs:=if eE f a s=0 then if eI (aB f.inodes a) s<0 then⟨4,⟨[],[]⟩⟩else⟨0,gQ (bH f a (aKx f a s)) (eI (aB f.inodes a) s)⟩else⟨eE f a s,⟨[],[]⟩⟩
theorem rN {f:DFs}{a:Int}{s:ByteArray} (h:¬eE f a s=0):jJ f a s=⟨eE f a s,⟨[],[]⟩⟩:=if_neg h
theorem rR {f:DFs}{a:Int}{s:ByteArray} (h:eE f a s=0) (h2:eI (aB f.inodes a) s<0):jJ f a s=⟨4,⟨[],[]⟩⟩:=by unfold jJ;rw [if_pos h,if_pos h2]
theorem aBj {f:DFs}{a:Int}{s:ByteArray} (h:eE f a s=0) (h2:¬eI (aB f.inodes a) s<0):jJ f a s=⟨0,gQ (bH f a (aKx f a s)) (eI (aB f.inodes a) s)⟩:=by unfold jJ;rw [if_pos h,if_neg h2]
theorem uK {es:List aQ}{s:ByteArray}{ix:Nat} (h:eS (cA s) es=(ix:Int)):eI es s=eY es ix:=by
  have hr:=gN (cA s) es
  obtain⟨e,he⟩:=aI (xs:=es) (j:=ix) (by omega)
  rw [mZ he]
  exact uY (by omega) (by rw [h,Int.toNat_natCast];exact he)
theorem aDo {f:DFs}{a:Int} (h:fI f a=0):∀(i j:Nat) (e g:aQ),i<j→(aB f.inodes a)[i]? =some e→(aB f.inodes a)[j]? =some g→sLt e.name g.name=true:=by
  obtain⟨ht,⟨h1,h2⟩,hk⟩:=qT h
  obtain⟨x,hx⟩:=aI (xs:=f.inodes) (j:=a.toNat) (by omega)
  rw [cI hx (by omega)]
  rw [cH hx (by omega)] at hk
  have hf:=dT (iY ht) x (List.mem_of_getElem? hx)
  refine qZ ?_
  unfold bV at hf
  rw [hk] at hf
  simp only at hf
  split at hf
  · split at hf
    · exact absurd hf (by decide)
    · simpa using hf
  · exact absurd hf (by decide)
theorem yB {es:List aQ}{s:ByteArray} (h:¬eI es s<0):∃ix:Nat,eS (cA s) es=(ix:Int):=by
  by_cases h2:eS (cA s) es<0
  · rw [sN h2] at h;exact absurd (by decide) h
  · exact⟨(eS (cA s) es).toNat,by omega⟩
theorem oY {f:DFs}{a:Int}{s:ByteArray} (h:eE f a s=0) (h2:¬eI (aB f.inodes a) s<0):jJ f a s=⟨0,gQ (bH f a ((aB f.inodes a).filter (hJ (cA s)))) (eI (aB f.inodes a) s)⟩:=by
  obtain⟨ix,hi⟩:=yB h2
  rw [aBj h h2,aHm (aDo (tM h)) hi,aKx,hi,Int.toNat_natCast]
structure tQ (f : DFs) (k : Int) : Prop where
  p:bR f.inodes.length k
  d:f.data.length=20
  b:∀b,b∈fM f.inodes k→0≤b∧b≤19
  l:eL f.inodes k≤60
  k:aR f.inodes k=1→1≤bP f.inodes k∧bP f.inodes k≤60
theorem tN {xs:List aF} (h:bJ xs=0) {k:Int} (hk:aR xs k=1):1≤bP xs k∧bP xs k≤60:=by
  unfold aR at hk
  unfold bP
  cases hx:xs[k.toNat]? with
  | none=>rw [hx] at hk;exact absurd hk (by decide)
  | some x=>
    rw [hx] at hk
    simp only at hk ⊢
    have hf:=dT h x (List.mem_of_getElem? hx)
    unfold bV at hf
    rw [hk] at hf
    simp only at hf
    split at hf
    · split at hf
      · exact absurd hf (by decide)
      · rw [if_pos trivial] at hf
        unfold fW at hf
        split at hf
        · rename_i h1;exact h1.1
        · exact absurd hf (by decide)
    · exact absurd hf (by decide)
theorem aGi {f : DFs} {a k : Int} {es : List aQ} (ht : bX f = 0) (hs : es.Sublist (aB f.inodes a)) (hp : bR f.inodes.length k) : tQ (bH f a es) k where
  p:=by simp only [bH,bB];exact hp
  d:=by exact(qN ht:f.data.length=20)
  b:=by simp only [bH,aAi];exact sJ (iY ht) k
  l:=Nat.le_trans (aIa hs) (pH (iY ht) k)
  k:=by simp only [bH,lE,oS];exact tN (iY ht)
theorem aF5 {f:DFs} (ht:bX f=0) {a:Int}{i:Nat}{e:aQ} (h:(aB f.inodes a)[i]? =some e):bR f.inodes.length e.ino:=by
  unfold aB at h
  cases hx:f.inodes[a.toNat]? with
  | none=>rw [hx] at h;simp at h
  | some x=>
    rw [hx] at h
    simp only at h
    have h1:=aHw (zR ht _ x hx i e h)
    have h2:=nN (dT (iY ht) x (List.mem_of_getElem? hx)) i e h
    exact⟨h2.2.1,by omega⟩
theorem zK {f:DFs} (ht:bX f=0) {a:Int}{i:Nat} (h:i<(aB f.inodes a).length):bR f.inodes.length (eY (aB f.inodes a) i):=by
  obtain⟨e,he⟩:=aI h
  rw [mZ he]
  exact aF5 ht he
theorem tD {f:DFs} (ht:bX f=0) {a:Int}{s:ByteArray} (h:¬eI (aB f.inodes a) s<0):bR f.inodes.length (eI (aB f.inodes a) s):=by
  obtain⟨ix,hi⟩:=yB h
  have hr:=gN (cA s) (aB f.inodes a)
  rw [uK hi]
  exact zK ht (by omega)
theorem aFs {f:DFs}{k n:Int} (h:tQ f k):bR (eO f.inodes k n).length k∧∀b,b∈fM (eO f.inodes k n) k→0≤b∧b≤19:=⟨by rw [bN];exact h.p,by rw [uN];exact h.b⟩
end Go.Proofs.YtmejbfmhaoilmaaGreat
/- What is proved: the bytes of a file, set anew, in plain Lean. No condition. -/
namespace Go.Proofs.YtmejbfmhaoilmaaGreat
open Go Go.RowKit
set_option linter.unusedVariables false
set_option linter.unusedSimpArgs false
def xT (L:List UInt8) (k:Nat):List UInt8:=fY L (k * 8) (min ((k+1) * 8) L.length)
def vI (data : List (List UInt8)) (bs : List Int) (L : List UInt8) : Nat → List (List UInt8)
  | 0=>data
  | k+1=>match bs[k]? with | some b=>(vI data bs L k).set b.toNat (xT L k) | none=>vI data bs L k
theorem aDt {data:List (List UInt8)}{bs:List Int}{L:List UInt8}{k:Nat}{b:Int} (h:bs[k]? =some b):(vI data bs L k).set b.toNat (xT L k)=vI data bs L (k+1):=by simp only [vI,h]
theorem tT {data : List (List UInt8)} {bs : List Int} {L : List UInt8} : ∀ k, (vI data bs L k).length = data.length
  | 0=>rfl
  | k+1=>by
    simp only [vI]
    split
    · rw [List.length_set];exact tT k
    · exact tT k
def vZ (xs:List aF) (a:Int) (n:Int) (ws:List Int):List aF:=match xs[a.toNat]? with | some y=>xs.set a.toNat ⟨y.kind,y.links,n,ws,y.ents⟩ | none=>xs
theorem aGa {xs:List aF}{a n:Int}{ws:List Int}{j:Nat}{y:aF} (h:xs[j]? =some y) (hj:a=(j:Int)):xs.set j ⟨y.kind,y.links,n,ws,y.ents⟩=vZ xs a n ws:=by
  subst hj;unfold vZ;rw [Int.toNat_natCast,h]
abbrev aKe (f:DFs) (a:Int) (L:List UInt8) (ws:List Int):DFs:=⟨vZ f.inodes a L.length ws,vI (iZ f a) ws L ws.length⟩
abbrev fX (f:DFs) (L:List UInt8) (busy:List Int):qQ:=nH f.inodes busy (((L.length:Int)+7) / 8)
theorem aEr {xs:List aF}{busy:List Int}{n:Int} (h:(nH xs busy n).code=0):(∀b,b∈(nH xs busy n).list→0≤b∧b≤19)∧((nH xs busy n).list.length:Int)=n:=by
  unfold nH at h ⊢
  split
  · rename_i h1
    rw [if_pos h1] at h
    split
    · rename_i h2;rw [if_pos h2] at h;exact absurd h (by decide)
    · rename_i h2
      refine⟨fun b hb=> ?_,by simp only [List.length_take];omega⟩
      have:=(aA4.1 (List.mem_of_mem_take hb)).1
      omega
  · rename_i h1;rw [if_neg h1] at h;exact absurd h (by decide)
noncomputable abbrev jU (f:DFs) (a:Int) (busy:List Int):Int:=if dO f a=0 then iV busy else dO f a
theorem aD3 {f:DFs}{a:Int}{busy:List Int} (h:¬dO f a=0):jU f a busy=dO f a:=if_neg h
theorem aE4 {f:DFs}{a:Int}{busy:List Int} (h:dO f a=0):jU f a busy=iV busy:=if_pos h
theorem wOk {f:DFs}{a:Int}{busy:List Int} (h:jU f a busy=0):dO f a=0∧iV busy=0:=by
  unfold jU at h
  split at h
  · rename_i h1;exact⟨h1,h⟩
  · contradiction
def vC (f:DFs) (a:Int) (L:List UInt8) (busy:List Int):RFs:=if(L.length:Int)≤32 then if(fX f L busy).code=0 then⟨0,aKe f a L (fX f L busy).list⟩else⟨(fX f L busy).code,⟨[],[]⟩⟩else⟨2,⟨[],[]⟩⟩
theorem aAz {f:DFs}{a:Int}{L:List UInt8}{busy:List Int} (h:¬(L.length:Int)≤32):vC f a L busy=⟨2,⟨[],[]⟩⟩:=if_neg h
theorem aAk {f:DFs}{a:Int}{L:List UInt8}{busy:List Int} (h:(L.length:Int)≤32) (h2:¬(fX f L busy).code=0):vC f a L busy=⟨(fX f L busy).code,⟨[],[]⟩⟩:=by unfold vC;rw [if_pos h,if_neg h2]
theorem aA1 {f:DFs}{a:Int}{L:List UInt8}{busy:List Int} (h:(L.length:Int)≤32) (h2:(fX f L busy).code=0):vC f a L busy=⟨0,aKe f a L (fX f L busy).list⟩:=by unfold vC;rw [if_pos h,if_pos h2]
def fsR (f:DFs) (c:Int):RFs:=if c=0 then⟨0,f⟩else⟨c,⟨[],[]⟩⟩
theorem aBu {f:DFs}{c:Int} (h:c=0):fsR f c=⟨0,f⟩:=if_pos h
theorem aBx {f:DFs}{c:Int} (h:¬c=0):fsR f c=⟨c,⟨[],[]⟩⟩:=if_neg h
def oK (L:List UInt8) (n:Int):List UInt8:=L++List.replicate (n.toNat - L.length) 0
theorem aGo (L:List UInt8):L=L++List.replicate 0 0:=by simp
theorem aGx {L:List UInt8}{k:Nat}:(L++List.replicate k (0:UInt8))++ [0]=L++List.replicate (k+1) 0:=by rw [List.append_assoc,←List.replicate_succ']
theorem yH {L:List UInt8}{k:Nat}:(L++List.replicate k (0:UInt8)).length=L.length+k:=by simp
theorem aBn {L:List UInt8}{n:Int}{k:Nat} (h1:k≤n.toNat - L.length) (h2:¬((L++List.replicate k (0:UInt8)).length:Int)<n):L++List.replicate k 0=oK L n:=by
  rw [yH] at h2
  unfold oK
  rw [show k=n.toNat - L.length by omega]
theorem tO {L:List UInt8}{n:Int}:(oK L n).length=L.length+(n.toNat - L.length):=by simp [oK]
noncomputable def pT (f:DFs) (a n:Int) (busy:List Int):RFs:=if jU f a busy=0 then if 0≤n∧n≤32 then vC f a ((oK (cQ f a) n).take n.toNat) busy else⟨3,⟨[],[]⟩⟩else⟨jU f a busy,⟨[],[]⟩⟩
theorem aDm {f:DFs}{a n:Int}{busy:List Int} (h:¬jU f a busy=0):pT f a n busy=⟨jU f a busy,⟨[],[]⟩⟩:=if_neg h
theorem aC3 {f:DFs}{a n:Int}{busy:List Int} (h:jU f a busy=0) (h2:¬(0≤n∧n≤32)):pT f a n busy=⟨3,⟨[],[]⟩⟩:=by unfold pT;rw [if_pos h,if_neg h2]
theorem aDl {f:DFs}{a n:Int}{busy:List Int} (h:jU f a busy=0) (h2:0≤n∧n≤32):pT f a n busy=vC f a ((oK (cQ f a) n).take n.toNat) busy:=by unfold pT;rw [if_pos h,if_pos h2]
def uO (L:List UInt8) (i:Nat) (ys:List UInt8) (q:Nat):List UInt8:=L.take i++ys.take q++L.drop (i+q)
theorem aKm (L:List UInt8) (i:Nat) (ys:List UInt8):L=uO L i ys 0:=by simp [uO]
theorem aGb {L:List UInt8}{i q:Nat}{ys:List UInt8} (h:i+q≤L.length) (h2:q≤ys.length):(uO L i ys q).length=L.length:=by
  simp only [uO,List.length_append,List.length_take,List.length_drop];omega
theorem aG1 {L:List UInt8}{i q:Nat}{ys:List UInt8}{y:UInt8} (h:ys[q]? =some y) (hl:i+q<L.length):(uO L i ys q).set (i+q) y=uO L i ys (q+1):=by
  have hq:=(List.getElem?_eq_some_iff.1 h).1
  unfold uO
  have h1:(L.take i++ys.take q).length=i+q:=by rw [List.length_append,List.length_take,List.length_take];omega
  rw [List.set_append_right _ _ (by omega),h1,Nat.sub_self,List.drop_eq_getElem_cons hl,List.set_cons_zero,←jX h]
  simp [List.append_assoc,Nat.add_assoc]
theorem aG0 {L:List UInt8}{i q:Nat}{ys:List UInt8} (h:ys.length≤q) (h2:q≤ys.length):uO L i ys q=uO L i ys ys.length:=by rw [show q=ys.length by omega]
abbrev aDs (f:DFs) (a i:Int) (ys:List UInt8):List UInt8:=uO (oK (cQ f a) (i+ys.length)) i.toNat ys ys.length
noncomputable def hY (f:DFs) (a i:Int) (ys:List UInt8) (busy:List Int):RFs:=
  if jU f a busy=0 then if 0≤i∧i≤1000 then if 32<i+ys.length then⟨2,⟨[],[]⟩⟩else if(ys.length:Int)=0 then⟨0,f⟩else vC f a (aDs f a i ys) busy else⟨3,⟨[],[]⟩⟩else⟨jU f a busy,⟨[],[]⟩⟩
theorem rS {f:DFs}{a i:Int}{ys:List UInt8}{busy:List Int} (h:¬jU f a busy=0):hY f a i ys busy=⟨jU f a busy,⟨[],[]⟩⟩:=if_neg h
theorem rH {f:DFs}{a i:Int}{ys:List UInt8}{busy:List Int} (h:jU f a busy=0) (h2:¬(0≤i∧i≤1000)):hY f a i ys busy=⟨3,⟨[],[]⟩⟩:=by unfold hY;rw [if_pos h,if_neg h2]
theorem qV {f:DFs}{a i:Int}{ys:List UInt8}{busy:List Int} (h:jU f a busy=0) (h2:0≤i∧i≤1000) (h3:32<i+ys.length):hY f a i ys busy=⟨2,⟨[],[]⟩⟩:=by unfold hY;rw [if_pos h,if_pos h2,if_pos h3]
theorem qY {f:DFs}{a i:Int}{ys:List UInt8}{busy:List Int} (h:jU f a busy=0) (h2:0≤i∧i≤1000) (h3:¬32<i+ys.length) (h4:(ys.length:Int)=0):hY f a i ys busy=⟨0,f⟩:=by unfold hY;rw [if_pos h,if_pos h2,if_neg h3,if_pos h4]
theorem rL {f:DFs}{a i:Int}{ys:List UInt8}{busy:List Int} (h:jU f a busy=0) (h2:0≤i∧i≤1000) (h3:¬32<i+ys.length) (h4:¬(ys.length:Int)=0):hY f a i ys busy=vC f a (aDs f a i ys) busy:=by unfold hY;rw [if_pos h,if_pos h2,if_neg h3,if_neg h4]
theorem aBm {L:List UInt8}{q:Nat}:fY L (q * 8) (Int.toNat (fF (L.length:Int) (((q+1) * 8:Nat):Int)))=xT L q:=by
  unfold xT
  have:=lL (L.length:Int) (((q+1) * 8:Nat):Int)
  rw [show Int.toNat (fF (L.length:Int) (((q+1) * 8:Nat):Int))=min ((q+1) * 8) L.length by omega]
theorem aFf {L:List UInt8}{q:Nat}:fY L (q * 8) (Int.toNat (fF (((q+1) * 8:Nat):Int) (L.length:Int)))=xT L q:=by
  rw [vB];exact aBm
theorem aLv {xs:List aF}{b:List Int} (h:bJ xs=0) (h2:iV b=0):jK xs b=0:=by unfold jK;rw [if_pos h,h2]
end Go.Proofs.YtmejbfmhaoilmaaGreat
/- What is proved: copy into a part of a slice of one's own. No condition. -/
namespace Go.Proofs.YtmejbfmhaoilmaaGreat
open Go Go.RowKit
set_option linter.unusedVariables false
set_option linter.unusedSimpArgs false
theorem aH5 {β:Type}{cur fl ys:List β}{a:Nat} (h:cur.take fl.length=fl) (hm:a+ys.length≤fl.length):(cur.take a++ys++cur.drop (a+ys.length)).take fl.length=fl.take a++ys++fl.drop (a+ys.length):=by
  have hc:cur=fl++cur.drop fl.length:=by conv=>lhs;rw [←List.take_append_drop fl.length cur,h]
  generalize cur.drop fl.length=r at hc
  subst hc
  have h1:(fl++r).take a=fl.take a:=List.take_append_of_le_length (by omega)
  have h2:(fl++r).drop (a+ys.length)=fl.drop (a+ys.length)++r:=List.drop_append_of_le_length hm
  rw [h1,h2,←List.append_assoc]
  exact List.take_left' (by simp only [List.length_append,List.length_take,List.length_drop];omega)
section
variable {P:Program}{T:eZ}{o:Oper}{w0:World}{S0:Bs}{l l':List Asn}
theorem aD7 {α:Type}{x:Operand}{xs:List α}{A:Option Addr}{i c:Nat} (h:Val T x (.slice A (fY xs i xs.length).length c)):Val T x (.slice A (xs.length - i) c):=by rwa [fR (Nat.le_refl _)] at h
theorem aEv {α : Type} {K : Kd α} (hK : wG K) {e by_ e2 by2 i c c' : Nat} {xs ys : List α} {ad : Addr} {A' : Option Addr} {xv : Value} {x s : Operand} {t t' : TypeId} (ho : o.op = .call { callee := .builtin .copy, args := #[x, s], argTypes := #[t, t'] }) (ht : P.underlying t = some (.slice e))
    (hi:(P.info? e).map (·.size)=some K.sz) (hx:Val T x (.slice A' (xs.length - i) c')) (hA:A'=(if c=i then some ad else some (ad.add (i * K.sz)))) (hs:Val T s xv)
    (hT:kD l [aG (bA e by_ K) xs [.slice (some ad) xs.length c]] l') (hsrc:∀w S1,Tr w0 S0 w S1 l'→(bA e2 by2 K).ro w (FF w S1) ys [xv]) (h:i+ys.length≤xs.length) (hp:0<ys.length):
    Eff P o T w0 S0 l (fun r l2=>r= .int .i64 (ys.length:Int)∧l2=aG (bA e by_ K) (xs.take i++ys++xs.drop (i+ys.length)) [.slice (some ad) xs.length c] :: l'):=by
  intro a w ha hw
  obtain⟨S1,hA1,tr,hkk⟩:=(hw.takes hT).eff
  obtain⟨css2,g1,g2,g3⟩:=xM (hsrc w S1 tr)
  obtain⟨i0,k1,k2⟩:=Option.map_eq_some_iff.1 hi
  obtain⟨b,c2,rfl,hcell⟩:∃b c,xv= .slice (some b) ys.length c∧∀j u,css2.flatten[j]? =some u→w.cell? (b.add j)=some u:=by
    rcases g2.from_ with h1 |⟨_,h1⟩
    · exact h1
    · omega
  rcases(show(bA e by_ K).own w S1 xs [.slice (some ad) xs.length c] from hA1.head) with ⟨A,hv,rfl⟩ |⟨g,cc,css,hv,h1,h2,h3,h4,h5⟩
  · simp only [List.length_nil] at h;omega
  have hv':=List.singleton_inj.1 hv
  injection hv' with e1 e2 e3
  obtain rfl:=Option.some.inj e1
  subst e3
  obtain⟨B1,B2,⟨hg,cur,q1,q2,q3,q4⟩,hseq,i1,i2,dd⟩:=h5
  have hlc:=mF h4 hseq
  have hfl:css.flatten.length=xs.length * K.sz:=by rw [gE hlc,h4]
  have hl2:css2.flatten.length=ys.length * K.sz:=g2.len
  have hone:∀u,u∈css2.flatten→u.oneCell'=true:=fun u hu=>by
    obtain⟨d,hd,hu2⟩:=List.mem_flatten.1 hu
    obtain⟨j,hj,rfl⟩:=List.mem_iff_getElem.1 hd
    obtain⟨y,hy⟩:=aI (xs:=ys) (j:=j) (by omega)
    exact K.ro_one (g3 j y _ hy (List.getElem?_eq_getElem hj)) u hu2
  have hmul:(i+ys.length) * K.sz≤xs.length * K.sz:=Nat.mul_le_mul_right _ h
  rw [Nat.add_mul] at hmul
  have hlA:A'=some ((⟨g,0,none⟩:Addr).add (i * K.sz)):=by
    rw [hA,if_neg (by omega)]
  have hcz:xs.length * K.sz≤c * K.sz:=Nat.mul_le_mul_right _ h1
  have hcur:cur.toList.length=cur.size:=Array.length_toList
  have hst:=run_storeCells_at P g (i * K.sz) e css2.flatten 0 cur w q1 (by omega) hone
  simp only [Nat.add_zero,hl2] at hst
  have hfc:=run_firstCells_some (P:=P) w K.sz ys.length b ys.length c2 css2.flatten hl2 hcell
  have hne:∀q,q≠g→(w.setRow g (cur.toList.take (i * K.sz)++css2.flatten++cur.toList.drop (i * K.sz+ys.length * K.sz)).toArray).heap[q]? =w.heap[q]? :=fun q hq=>setRow_other w g q _ hq
  have hn:css2.length=ys.length:=g1
  have hcl:(css.take i++css2++css.drop (i+ys.length)).length=(xs.take i++ys++xs.drop (i+ys.length)).length:=by
    simp only [List.length_append,List.length_take,List.length_drop];omega
  have hxl:(xs.take i++ys++xs.drop (i+ys.length)).length=xs.length:=by
    simp only [List.length_append,List.length_take,List.length_drop];omega
  have hro:∀(j:Nat) (y:α) (d:List Value),(xs.take i++ys++xs.drop (i+ys.length))[j]? =some y→(css.take i++css2++css.drop (i+ys.length))[j]? =some d→K.ro w (FF w S1) y d∨∃F,K.ro w F y d:=fun j y d hy hd=>by
    have hti:(xs.take i).length=i:=by rw [List.length_take];omega
    have htc:(css.take i).length=i:=by rw [List.length_take];omega
    by_cases hj:j<i
    · rw [List.append_assoc, List.getElem?_append_left (by omega), List.getElem?_take, if_pos hj] at hy hd
      exact .inr ⟨_,K.own_ro (oB hseq hy hd)⟩
    · rw [List.append_assoc, List.getElem?_append_right (by omega), hti] at hy
      rw [List.append_assoc,List.getElem?_append_right (by omega),htc] at hd
      by_cases hj2:j - i<ys.length
      · rw [List.getElem?_append_left hj2] at hy
        rw [List.getElem?_append_left (by omega)] at hd
        exact .inl (g3 _ y d hy hd)
      · rw [List.getElem?_append_right (by omega), List.getElem?_drop] at hy
        rw [List.getElem?_append_right (by omega),List.getElem?_drop,hn] at hd
        exact .inr ⟨_,K.own_ro (oB hseq hy hd)⟩
  have hflat:(css.take i++css2++css.drop (i+ys.length)).flatten=css.flatten.take (i * K.sz)++css2.flatten++css.flatten.drop (i * K.sz+ys.length * K.sz):=by
    rw [List.flatten_append,List.flatten_append,kK hlc,qA hlc,Nat.add_mul]
  have hseq2:∀(w':World) (S':Bs),cB (iW K (xs.take i++ys++xs.drop (i+ys.length)) (css.take i++css2++css.drop (i+ys.length))) w' S':=fun w' S'=>by
    have:∀{zs:List α}{ds:List (List Value)},ds.length=zs.length→(∀(j:Nat) (y:α) (d:List Value),zs[j]? =some y→ds[j]? =some d→K.ro w (FF w S1) y d∨∃F,K.ro w F y d)→cB (iW K zs ds) w' S':=by
      intro zs
      induction zs generalizing S' with
      | nil=>intro ds hl _;cases ds with
        | nil=>trivial
        | cons _ _=>simp at hl
      | cons z zs ih=>intro ds hl hz;cases ds with
        | nil=>simp at hl
        | cons d ds=>
          refine⟨fun _=>False,fun _=>False,?_,ih _ (by simpa using hl) (fun j y c' p1 p2=>hz (j+1) y c' p1 p2),fun _ h=>h.elim,fun _ h=>h.elim,fun _ h=>h.elim⟩
          rcases hz 0 z d rfl rfl with hh |⟨F,hh⟩
          · exact hK hh _ _
          · exact hK hh _ _
    exact this hcl hro
  refine⟨.int .i64 (ys.length:Int),_,_,?_,⟨rfl,rfl⟩,hkk _ [aG (bA e by_ K) (xs.take i++ys++xs.drop (i+ys.length)) [.slice (some ⟨g,0,none⟩) xs.length c]] S1 (cB.one (c:=aG (bA e by_ K) _ _) (.inr ⟨g,c,css.take i++css2++css.drop (i+ys.length),by rw [hxl],by rw [hxl];exact h1,h2,by rw [hxl];exact h3,hcl,B1,fun _=>False,⟨hg,_,setRow_heap w g cur _ e _ q1,?_,?_,?_⟩,hseq2 _ _,i1,fun _ h=>h.elim,fun _ _ h=>h⟩)) (fun b hb=> .inl hb) ⟨rfl,rfl,rfl,by simp,fun b hb hn=>hne b (fun e=>hn (e ▸ i1 g hg))⟩⟩
  · simp only [execOp, ho, hx a ha, hs a ha]
    have hmin:Nat.min ys.length (xs.length - i)=ys.length:=Nat.min_eq_left (by omega)
    have:(Builtin.copy_ #[t,t'] o.type #[.slice A' (xs.length - i) c',.slice (some b) ys.length c2]).run P w= .ok (.int .i64 (ys.length:Int)) (w.setRow g (cur.toList.take (i * K.sz)++css2.flatten++cur.toList.drop (i * K.sz+ys.length * K.sz)).toArray):=by
      rw [hlA,fO]
      simp [Builtin.copy_,run_underlying ht,Builtin.lenOf,sizeOf,typeInfo,k1,k2,hmin,hfc,hst,goInt]
    simp [resolve,hx a ha,hs a ha,invoke,builtin,this]
  · simp only [List.size_toArray,List.length_append,List.length_take,List.length_drop,hl2];omega
  · rw [hflat];simp only [List.size_toArray,List.length_append,List.length_take,List.length_drop,hl2,hfl];omega
  · rw [hflat]
    have hm:=aH5 (cur:=cur.toList) (fl:=css.flatten) (ys:=css2.flatten) (a:=i * K.sz) q4 (by omega)
    rw [hl2] at hm
    have hlen:(css.flatten.take (i * K.sz)++css2.flatten++css.flatten.drop (i * K.sz+ys.length * K.sz)).length=css.flatten.length:=by
      simp only [List.length_append,List.length_take,List.length_drop,hl2];omega
    rw [hlen]
    exact hm
end
end Go.Proofs.YtmejbfmhaoilmaaGreat

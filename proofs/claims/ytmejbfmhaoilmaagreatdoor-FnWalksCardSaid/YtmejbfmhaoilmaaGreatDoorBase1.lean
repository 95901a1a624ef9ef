/- What is proved: bytes turned to a string; what is read, of a world behind. No condition. -/
import Derived.Test.YtmejbfmhaoilmaaGreatDoorBase0
import Derived.Laws.StructEq
import Derived.Tactics
import Derived.Lib.SlicesCompact
import Derived.Sort.Row
import Derived.Sort.Grow
import Derived.Lib.SplitLaws
import Derived.Lib.Join
namespace Go.Proofs.YtmejbfmhaoilmaaGreatDoor
open Go Go.RowKit
set_option linter.unusedVariables false
set_option linter.unusedSimpArgs false
section
variable {P:Program}{T:eR}{Wd:World→Prop}{o:Oper}{N:Nat}{w0:World}{S0:Bs}{l l':List Asn}
theorem aDt {a b:Int} (ha:0≤a) (h:a≤9223372036854775807) (hb:0<b):IntKind.i64.wrap (a.tdiv b)=a / b:=by
  rw [Int.tdiv_eq_ediv_of_nonneg ha]
  have h1:0≤a / b:=Int.ediv_nonneg ha (by omega)
  have h2:a / b≤a:=Int.ediv_le_self b ha
  exact wr rfl (by omega) (by omega)
theorem aJx {α:Type} [DecidableEq α] (xs:List α) (v:α):xs.any (fun x=>decide (x=v))=decide (v∈xs):=by
  rw [Bool.eq_iff_iff,List.any_eq_true,decide_eq_true_iff]
  exact⟨fun⟨x,hx,h⟩=>of_decide_eq_true h ▸ hx,fun h=>⟨v,h,decide_eq_true rfl⟩⟩
theorem aHt {d:Nat}{xs ys:Array Value} (w:World):(Op.eqFields d xs ys []).run P w= .ok true w:=by simp [Op.eqFields]
theorem zY {d : Nat} {xs ys : Array Value} {f : Field} {fs : List Field} {a b : Value} {r q : Bool} (hn : (f.name != "_") = true) (ha : ∀ w, (part f.type xs f.offset).run P w = .ok a w) (hb : ∀ w, (part f.type ys f.offset).run P w = .ok b w)
    (he:∀w,(Op.equalIn d f.type a b).run P w= .ok r w) (hr:∀w,(Op.eqFields d xs ys fs).run P w= .ok q w) (w:World):(Op.eqFields d xs ys (f :: fs)).run P w= .ok (r && q) w:=by
  have hn':f.name≠ "_" :=by simpa using hn
  simp only [Op.eqFields]
  rw [if_pos hn']
  simp only [Sem.run_bind,ha,hb,he,Result.andThen_ok]
  cases r <;> simp [hr]
theorem aJo (a b:ByteArray):(a.toList == b.toList)=decide (a=b):=by
  rw [ByteArray.toList_eq,ByteArray.toList_eq,Bool.eq_iff_iff,beq_iff_eq,decide_eq_true_iff]
  constructor
  · intro h
    cases a
    cases b
    simp only [Array.toList_inj] at h
    rw [h]
  · rintro rfl;rfl
theorem aI0 (a b:Int):(a == b)=decide (a=b):=aA2 a b
theorem aIu {x y:Operand}{t t':TypeId}{xs ys:Array Value}{b:Bool} (ho:o.op= .binOp .neq t x y t') (he:∀w,(Op.equalIn 10000 t (.agg xs) (.agg ys)).run P w= .ok b w) (hg:P.eqGuardType P.depth t=false) (hx:Val T x (.agg xs)) (hy:Val T y (.agg ys)):eO P o T Wd (.bool (!b)):=fun a w ha _=>by
  simp only [execOp,ho,hx a ha,hy a ha]
  simp [run_eqGuard_agg w .neq t x y xs ys hg,run_neq_struct w,he w]
end
end Go.Proofs.YtmejbfmhaoilmaaGreatDoor
/- What is proved: short names of the rules that walks use most. No condition. -/
namespace Go.Proofs.YtmejbfmhaoilmaaGreatDoor
open Go Go.RowKit
set_option linter.unusedVariables false
theorem Get.g1 {α:Type}{q0 p:α}{l:List α}:Get (q0 :: p :: l) p:= .s .z
theorem Er.g1 {α:Type}{q0 p:α}{l:List α}:Er (q0 :: p :: l) p (q0 :: l):= .s .z
theorem fG.g1 {q0 p:Asn}{l:List Asn}:fG (q0 :: p :: l) p (q0 :: l):= .s .z
theorem Sb.g1 {q0:Asn}{l:List Asn}:Sb (q0 :: l) l:= .s .z
theorem mG.g1 {q0 u v:Value}{l:List Value}:mG (q0 :: u :: l) 1 v (q0 :: v :: l):= .s .z
theorem Get.g2 {α:Type}{q0 q1 p:α}{l:List α}:Get (q0 :: q1 :: p :: l) p:= .s (.s .z)
theorem Er.g2 {α:Type}{q0 q1 p:α}{l:List α}:Er (q0 :: q1 :: p :: l) p (q0 :: q1 :: l):= .s (.s .z)
theorem fG.g2 {q0 q1 p:Asn}{l:List Asn}:fG (q0 :: q1 :: p :: l) p (q0 :: q1 :: l):= .s (.s .z)
theorem Sb.g2 {q0 q1:Asn}{l:List Asn}:Sb (q0 :: q1 :: l) l:= .s (.s .z)
theorem mG.g2 {q0 q1 u v:Value}{l:List Value}:mG (q0 :: q1 :: u :: l) 2 v (q0 :: q1 :: v :: l):= .s (.s .z)
theorem Get.g3 {α:Type}{q0 q1 q2 p:α}{l:List α}:Get (q0 :: q1 :: q2 :: p :: l) p:= .s (.s (.s .z))
theorem Er.g3 {α:Type}{q0 q1 q2 p:α}{l:List α}:Er (q0 :: q1 :: q2 :: p :: l) p (q0 :: q1 :: q2 :: l):= .s (.s (.s .z))
theorem fG.g3 {q0 q1 q2 p:Asn}{l:List Asn}:fG (q0 :: q1 :: q2 :: p :: l) p (q0 :: q1 :: q2 :: l):= .s (.s (.s .z))
theorem Sb.g3 {q0 q1 q2:Asn}{l:List Asn}:Sb (q0 :: q1 :: q2 :: l) l:= .s (.s (.s .z))
theorem mG.g3 {q0 q1 q2 u v:Value}{l:List Value}:mG (q0 :: q1 :: q2 :: u :: l) 3 v (q0 :: q1 :: q2 :: v :: l):= .s (.s (.s .z))
theorem Get.g4 {α:Type}{q0 q1 q2 q3 p:α}{l:List α}:Get (q0 :: q1 :: q2 :: q3 :: p :: l) p:= .s (.s (.s (.s .z)))
theorem Er.g4 {α:Type}{q0 q1 q2 q3 p:α}{l:List α}:Er (q0 :: q1 :: q2 :: q3 :: p :: l) p (q0 :: q1 :: q2 :: q3 :: l):= .s (.s (.s (.s .z)))
theorem fG.g4 {q0 q1 q2 q3 p:Asn}{l:List Asn}:fG (q0 :: q1 :: q2 :: q3 :: p :: l) p (q0 :: q1 :: q2 :: q3 :: l):= .s (.s (.s (.s .z)))
theorem Sb.g4 {q0 q1 q2 q3:Asn}{l:List Asn}:Sb (q0 :: q1 :: q2 :: q3 :: l) l:= .s (.s (.s (.s .z)))
theorem mG.g4 {q0 q1 q2 q3 u v:Value}{l:List Value}:mG (q0 :: q1 :: q2 :: q3 :: u :: l) 4 v (q0 :: q1 :: q2 :: q3 :: v :: l):= .s (.s (.s (.s .z)))
theorem Get.g5 {α:Type}{q0 q1 q2 q3 q4 p:α}{l:List α}:Get (q0 :: q1 :: q2 :: q3 :: q4 :: p :: l) p:= .s (.s (.s (.s (.s .z))))
theorem Er.g5 {α:Type}{q0 q1 q2 q3 q4 p:α}{l:List α}:Er (q0 :: q1 :: q2 :: q3 :: q4 :: p :: l) p (q0 :: q1 :: q2 :: q3 :: q4 :: l):= .s (.s (.s (.s (.s .z))))
theorem fG.g5 {q0 q1 q2 q3 q4 p:Asn}{l:List Asn}:fG (q0 :: q1 :: q2 :: q3 :: q4 :: p :: l) p (q0 :: q1 :: q2 :: q3 :: q4 :: l):= .s (.s (.s (.s (.s .z))))
theorem Sb.g5 {q0 q1 q2 q3 q4:Asn}{l:List Asn}:Sb (q0 :: q1 :: q2 :: q3 :: q4 :: l) l:= .s (.s (.s (.s (.s .z))))
theorem mG.g5 {q0 q1 q2 q3 q4 u v:Value}{l:List Value}:mG (q0 :: q1 :: q2 :: q3 :: q4 :: u :: l) 5 v (q0 :: q1 :: q2 :: q3 :: q4 :: v :: l):= .s (.s (.s (.s (.s .z))))
theorem Get.g6 {α:Type}{q0 q1 q2 q3 q4 q5 p:α}{l:List α}:Get (q0 :: q1 :: q2 :: q3 :: q4 :: q5 :: p :: l) p:= .s (.s (.s (.s (.s (.s .z)))))
theorem Er.g6 {α:Type}{q0 q1 q2 q3 q4 q5 p:α}{l:List α}:Er (q0 :: q1 :: q2 :: q3 :: q4 :: q5 :: p :: l) p (q0 :: q1 :: q2 :: q3 :: q4 :: q5 :: l):= .s (.s (.s (.s (.s (.s .z)))))
theorem fG.g6 {q0 q1 q2 q3 q4 q5 p:Asn}{l:List Asn}:fG (q0 :: q1 :: q2 :: q3 :: q4 :: q5 :: p :: l) p (q0 :: q1 :: q2 :: q3 :: q4 :: q5 :: l):= .s (.s (.s (.s (.s (.s .z)))))
theorem Sb.g6 {q0 q1 q2 q3 q4 q5:Asn}{l:List Asn}:Sb (q0 :: q1 :: q2 :: q3 :: q4 :: q5 :: l) l:= .s (.s (.s (.s (.s (.s .z)))))
theorem mG.g6 {q0 q1 q2 q3 q4 q5 u v:Value}{l:List Value}:mG (q0 :: q1 :: q2 :: q3 :: q4 :: q5 :: u :: l) 6 v (q0 :: q1 :: q2 :: q3 :: q4 :: q5 :: v :: l):= .s (.s (.s (.s (.s (.s .z)))))
theorem Get.g7 {α:Type}{q0 q1 q2 q3 q4 q5 q6 p:α}{l:List α}:Get (q0 :: q1 :: q2 :: q3 :: q4 :: q5 :: q6 :: p :: l) p:= .s (.s (.s (.s (.s (.s (.s .z))))))
theorem Er.g7 {α:Type}{q0 q1 q2 q3 q4 q5 q6 p:α}{l:List α}:Er (q0 :: q1 :: q2 :: q3 :: q4 :: q5 :: q6 :: p :: l) p (q0 :: q1 :: q2 :: q3 :: q4 :: q5 :: q6 :: l):= .s (.s (.s (.s (.s (.s (.s .z))))))
theorem fG.g7 {q0 q1 q2 q3 q4 q5 q6 p:Asn}{l:List Asn}:fG (q0 :: q1 :: q2 :: q3 :: q4 :: q5 :: q6 :: p :: l) p (q0 :: q1 :: q2 :: q3 :: q4 :: q5 :: q6 :: l):= .s (.s (.s (.s (.s (.s (.s .z))))))
theorem Sb.g7 {q0 q1 q2 q3 q4 q5 q6:Asn}{l:List Asn}:Sb (q0 :: q1 :: q2 :: q3 :: q4 :: q5 :: q6 :: l) l:= .s (.s (.s (.s (.s (.s (.s .z))))))
theorem mG.g7 {q0 q1 q2 q3 q4 q5 q6 u v:Value}{l:List Value}:mG (q0 :: q1 :: q2 :: q3 :: q4 :: q5 :: q6 :: u :: l) 7 v (q0 :: q1 :: q2 :: q3 :: q4 :: q5 :: q6 :: v :: l):= .s (.s (.s (.s (.s (.s (.s .z))))))
theorem Get.g8 {α:Type}{q0 q1 q2 q3 q4 q5 q6 q7 p:α}{l:List α}:Get (q0 :: q1 :: q2 :: q3 :: q4 :: q5 :: q6 :: q7 :: p :: l) p:= .s (.s (.s (.s (.s (.s (.s (.s .z)))))))
theorem Er.g8 {α:Type}{q0 q1 q2 q3 q4 q5 q6 q7 p:α}{l:List α}:Er (q0 :: q1 :: q2 :: q3 :: q4 :: q5 :: q6 :: q7 :: p :: l) p (q0 :: q1 :: q2 :: q3 :: q4 :: q5 :: q6 :: q7 :: l):= .s (.s (.s (.s (.s (.s (.s (.s .z)))))))
theorem fG.g8 {q0 q1 q2 q3 q4 q5 q6 q7 p:Asn}{l:List Asn}:fG (q0 :: q1 :: q2 :: q3 :: q4 :: q5 :: q6 :: q7 :: p :: l) p (q0 :: q1 :: q2 :: q3 :: q4 :: q5 :: q6 :: q7 :: l):= .s (.s (.s (.s (.s (.s (.s (.s .z)))))))
theorem Sb.g8 {q0 q1 q2 q3 q4 q5 q6 q7:Asn}{l:List Asn}:Sb (q0 :: q1 :: q2 :: q3 :: q4 :: q5 :: q6 :: q7 :: l) l:= .s (.s (.s (.s (.s (.s (.s (.s .z)))))))
theorem mG.g8 {q0 q1 q2 q3 q4 q5 q6 q7 u v:Value}{l:List Value}:mG (q0 :: q1 :: q2 :: q3 :: q4 :: q5 :: q6 :: q7 :: u :: l) 8 v (q0 :: q1 :: q2 :: q3 :: q4 :: q5 :: q6 :: q7 :: v :: l):= .s (.s (.s (.s (.s (.s (.s (.s .z)))))))
theorem Get.g9 {α:Type}{q0 q1 q2 q3 q4 q5 q6 q7 q8 p:α}{l:List α}:Get (q0 :: q1 :: q2 :: q3 :: q4 :: q5 :: q6 :: q7 :: q8 :: p :: l) p:= .s (.s (.s (.s (.s (.s (.s (.s (.s .z))))))))
theorem Er.g9 {α:Type}{q0 q1 q2 q3 q4 q5 q6 q7 q8 p:α}{l:List α}:Er (q0 :: q1 :: q2 :: q3 :: q4 :: q5 :: q6 :: q7 :: q8 :: p :: l) p (q0 :: q1 :: q2 :: q3 :: q4 :: q5 :: q6 :: q7 :: q8 :: l):= .s (.s (.s (.s (.s (.s (.s (.s (.s .z))))))))
theorem fG.g9 {q0 q1 q2 q3 q4 q5 q6 q7 q8 p:Asn}{l:List Asn}:fG (q0 :: q1 :: q2 :: q3 :: q4 :: q5 :: q6 :: q7 :: q8 :: p :: l) p (q0 :: q1 :: q2 :: q3 :: q4 :: q5 :: q6 :: q7 :: q8 :: l):= .s (.s (.s (.s (.s (.s (.s (.s (.s .z))))))))
theorem Sb.g9 {q0 q1 q2 q3 q4 q5 q6 q7 q8:Asn}{l:List Asn}:Sb (q0 :: q1 :: q2 :: q3 :: q4 :: q5 :: q6 :: q7 :: q8 :: l) l:= .s (.s (.s (.s (.s (.s (.s (.s (.s .z))))))))
theorem Get.g10 {α:Type}{q0 q1 q2 q3 q4 q5 q6 q7 q8 q9 p:α}{l:List α}:Get (q0 :: q1 :: q2 :: q3 :: q4 :: q5 :: q6 :: q7 :: q8 :: q9 :: p :: l) p:= .s (.s (.s (.s (.s (.s (.s (.s (.s (.s .z)))))))))
theorem Er.g10 {α:Type}{q0 q1 q2 q3 q4 q5 q6 q7 q8 q9 p:α}{l:List α}:Er (q0 :: q1 :: q2 :: q3 :: q4 :: q5 :: q6 :: q7 :: q8 :: q9 :: p :: l) p (q0 :: q1 :: q2 :: q3 :: q4 :: q5 :: q6 :: q7 :: q8 :: q9 :: l):= .s (.s (.s (.s (.s (.s (.s (.s (.s (.s .z)))))))))
theorem fG.g10 {q0 q1 q2 q3 q4 q5 q6 q7 q8 q9 p:Asn}{l:List Asn}:fG (q0 :: q1 :: q2 :: q3 :: q4 :: q5 :: q6 :: q7 :: q8 :: q9 :: p :: l) p (q0 :: q1 :: q2 :: q3 :: q4 :: q5 :: q6 :: q7 :: q8 :: q9 :: l):= .s (.s (.s (.s (.s (.s (.s (.s (.s (.s .z)))))))))
theorem Sb.g10 {q0 q1 q2 q3 q4 q5 q6 q7 q8 q9:Asn}{l:List Asn}:Sb (q0 :: q1 :: q2 :: q3 :: q4 :: q5 :: q6 :: q7 :: q8 :: q9 :: l) l:= .s (.s (.s (.s (.s (.s (.s (.s (.s (.s .z)))))))))
theorem Get.g11 {α:Type}{q0 q1 q2 q3 q4 q5 q6 q7 q8 q9 q10 p:α}{l:List α}:Get (q0 :: q1 :: q2 :: q3 :: q4 :: q5 :: q6 :: q7 :: q8 :: q9 :: q10 :: p :: l) p:= .s (.s (.s (.s (.s (.s (.s (.s (.s (.s (.s .z))))))))))
theorem Er.g11 {α:Type}{q0 q1 q2 q3 q4 q5 q6 q7 q8 q9 q10 p:α}{l:List α}:Er (q0 :: q1 :: q2 :: q3 :: q4 :: q5 :: q6 :: q7 :: q8 :: q9 :: q10 :: p :: l) p (q0 :: q1 :: q2 :: q3 :: q4 :: q5 :: q6 :: q7 :: q8 :: q9 :: q10 :: l):= .s (.s (.s (.s (.s (.s (.s (.s (.s (.s (.s .z))))))))))
theorem fG.g11 {q0 q1 q2 q3 q4 q5 q6 q7 q8 q9 q10 p:Asn}{l:List Asn}:fG (q0 :: q1 :: q2 :: q3 :: q4 :: q5 :: q6 :: q7 :: q8 :: q9 :: q10 :: p :: l) p (q0 :: q1 :: q2 :: q3 :: q4 :: q5 :: q6 :: q7 :: q8 :: q9 :: q10 :: l):= .s (.s (.s (.s (.s (.s (.s (.s (.s (.s (.s .z))))))))))
theorem Sb.g11 {q0 q1 q2 q3 q4 q5 q6 q7 q8 q9 q10:Asn}{l:List Asn}:Sb (q0 :: q1 :: q2 :: q3 :: q4 :: q5 :: q6 :: q7 :: q8 :: q9 :: q10 :: l) l:= .s (.s (.s (.s (.s (.s (.s (.s (.s (.s (.s .z))))))))))
theorem Get.g12 {α:Type}{q0 q1 q2 q3 q4 q5 q6 q7 q8 q9 q10 q11 p:α}{l:List α}:Get (q0 :: q1 :: q2 :: q3 :: q4 :: q5 :: q6 :: q7 :: q8 :: q9 :: q10 :: q11 :: p :: l) p:= .s (.s (.s (.s (.s (.s (.s (.s (.s (.s (.s (.s .z)))))))))))
theorem Er.g12 {α:Type}{q0 q1 q2 q3 q4 q5 q6 q7 q8 q9 q10 q11 p:α}{l:List α}:Er (q0 :: q1 :: q2 :: q3 :: q4 :: q5 :: q6 :: q7 :: q8 :: q9 :: q10 :: q11 :: p :: l) p (q0 :: q1 :: q2 :: q3 :: q4 :: q5 :: q6 :: q7 :: q8 :: q9 :: q10 :: q11 :: l):= .s (.s (.s (.s (.s (.s (.s (.s (.s (.s (.s (.s .z)))))))))))
theorem fG.g12 {q0 q1 q2 q3 q4 q5 q6 q7 q8 q9 q10 q11 p:Asn}{l:List Asn}:fG (q0 :: q1 :: q2 :: q3 :: q4 :: q5 :: q6 :: q7 :: q8 :: q9 :: q10 :: q11 :: p :: l) p (q0 :: q1 :: q2 :: q3 :: q4 :: q5 :: q6 :: q7 :: q8 :: q9 :: q10 :: q11 :: l):= .s (.s (.s (.s (.s (.s (.s (.s (.s (.s (.s (.s .z)))))))))))
theorem Sb.g12 {q0 q1 q2 q3 q4 q5 q6 q7 q8 q9 q10 q11:Asn}{l:List Asn}:Sb (q0 :: q1 :: q2 :: q3 :: q4 :: q5 :: q6 :: q7 :: q8 :: q9 :: q10 :: q11 :: l) l:= .s (.s (.s (.s (.s (.s (.s (.s (.s (.s (.s (.s .z)))))))))))
theorem Get.g13 {α:Type}{q0 q1 q2 q3 q4 q5 q6 q7 q8 q9 q10 q11 q12 p:α}{l:List α}:Get (q0 :: q1 :: q2 :: q3 :: q4 :: q5 :: q6 :: q7 :: q8 :: q9 :: q10 :: q11 :: q12 :: p :: l) p:= .s (.s (.s (.s (.s (.s (.s (.s (.s (.s (.s (.s (.s .z))))))))))))
theorem Er.g13 {α:Type}{q0 q1 q2 q3 q4 q5 q6 q7 q8 q9 q10 q11 q12 p:α}{l:List α}:Er (q0 :: q1 :: q2 :: q3 :: q4 :: q5 :: q6 :: q7 :: q8 :: q9 :: q10 :: q11 :: q12 :: p :: l) p (q0 :: q1 :: q2 :: q3 :: q4 :: q5 :: q6 :: q7 :: q8 :: q9 :: q10 :: q11 :: q12 :: l):= .s (.s (.s (.s (.s (.s (.s (.s (.s (.s (.s (.s (.s .z))))))))))))
theorem fG.g13 {q0 q1 q2 q3 q4 q5 q6 q7 q8 q9 q10 q11 q12 p:Asn}{l:List Asn}:fG (q0 :: q1 :: q2 :: q3 :: q4 :: q5 :: q6 :: q7 :: q8 :: q9 :: q10 :: q11 :: q12 :: p :: l) p (q0 :: q1 :: q2 :: q3 :: q4 :: q5 :: q6 :: q7 :: q8 :: q9 :: q10 :: q11 :: q12 :: l):= .s (.s (.s (.s (.s (.s (.s (.s (.s (.s (.s (.s (.s .z))))))))))))
theorem Sb.g13 {q0 q1 q2 q3 q4 q5 q6 q7 q8 q9 q10 q11 q12:Asn}{l:List Asn}:Sb (q0 :: q1 :: q2 :: q3 :: q4 :: q5 :: q6 :: q7 :: q8 :: q9 :: q10 :: q11 :: q12 :: l) l:= .s (.s (.s (.s (.s (.s (.s (.s (.s (.s (.s (.s (.s .z))))))))))))
theorem Get.g14 {α:Type}{q0 q1 q2 q3 q4 q5 q6 q7 q8 q9 q10 q11 q12 q13 p:α}{l:List α}:Get (q0 :: q1 :: q2 :: q3 :: q4 :: q5 :: q6 :: q7 :: q8 :: q9 :: q10 :: q11 :: q12 :: q13 :: p :: l) p:= .s (.s (.s (.s (.s (.s (.s (.s (.s (.s (.s (.s (.s (.s .z)))))))))))))
theorem Er.g14 {α:Type}{q0 q1 q2 q3 q4 q5 q6 q7 q8 q9 q10 q11 q12 q13 p:α}{l:List α}:Er (q0 :: q1 :: q2 :: q3 :: q4 :: q5 :: q6 :: q7 :: q8 :: q9 :: q10 :: q11 :: q12 :: q13 :: p :: l) p (q0 :: q1 :: q2 :: q3 :: q4 :: q5 :: q6 :: q7 :: q8 :: q9 :: q10 :: q11 :: q12 :: q13 :: l):= .s (.s (.s (.s (.s (.s (.s (.s (.s (.s (.s (.s (.s (.s .z)))))))))))))
theorem fG.g14 {q0 q1 q2 q3 q4 q5 q6 q7 q8 q9 q10 q11 q12 q13 p:Asn}{l:List Asn}:fG (q0 :: q1 :: q2 :: q3 :: q4 :: q5 :: q6 :: q7 :: q8 :: q9 :: q10 :: q11 :: q12 :: q13 :: p :: l) p (q0 :: q1 :: q2 :: q3 :: q4 :: q5 :: q6 :: q7 :: q8 :: q9 :: q10 :: q11 :: q12 :: q13 :: l):= .s (.s (.s (.s (.s (.s (.s (.s (.s (.s (.s (.s (.s (.s .z)))))))))))))
theorem Sb.g14 {q0 q1 q2 q3 q4 q5 q6 q7 q8 q9 q10 q11 q12 q13:Asn}{l:List Asn}:Sb (q0 :: q1 :: q2 :: q3 :: q4 :: q5 :: q6 :: q7 :: q8 :: q9 :: q10 :: q11 :: q12 :: q13 :: l) l:= .s (.s (.s (.s (.s (.s (.s (.s (.s (.s (.s (.s (.s (.s .z)))))))))))))
theorem Get.g15 {α:Type}{q0 q1 q2 q3 q4 q5 q6 q7 q8 q9 q10 q11 q12 q13 q14 p:α}{l:List α}:Get (q0 :: q1 :: q2 :: q3 :: q4 :: q5 :: q6 :: q7 :: q8 :: q9 :: q10 :: q11 :: q12 :: q13 :: q14 :: p :: l) p:= .s (.s (.s (.s (.s (.s (.s (.s (.s (.s (.s (.s (.s (.s (.s .z))))))))))))))
theorem Er.g15 {α:Type}{q0 q1 q2 q3 q4 q5 q6 q7 q8 q9 q10 q11 q12 q13 q14 p:α}{l:List α}:Er (q0 :: q1 :: q2 :: q3 :: q4 :: q5 :: q6 :: q7 :: q8 :: q9 :: q10 :: q11 :: q12 :: q13 :: q14 :: p :: l) p (q0 :: q1 :: q2 :: q3 :: q4 :: q5 :: q6 :: q7 :: q8 :: q9 :: q10 :: q11 :: q12 :: q13 :: q14 :: l):= .s (.s (.s (.s (.s (.s (.s (.s (.s (.s (.s (.s (.s (.s (.s .z))))))))))))))
theorem fG.g15 {q0 q1 q2 q3 q4 q5 q6 q7 q8 q9 q10 q11 q12 q13 q14 p:Asn}{l:List Asn}:fG (q0 :: q1 :: q2 :: q3 :: q4 :: q5 :: q6 :: q7 :: q8 :: q9 :: q10 :: q11 :: q12 :: q13 :: q14 :: p :: l) p (q0 :: q1 :: q2 :: q3 :: q4 :: q5 :: q6 :: q7 :: q8 :: q9 :: q10 :: q11 :: q12 :: q13 :: q14 :: l):= .s (.s (.s (.s (.s (.s (.s (.s (.s (.s (.s (.s (.s (.s (.s .z))))))))))))))
theorem Sb.g15 {q0 q1 q2 q3 q4 q5 q6 q7 q8 q9 q10 q11 q12 q13 q14:Asn}{l:List Asn}:Sb (q0 :: q1 :: q2 :: q3 :: q4 :: q5 :: q6 :: q7 :: q8 :: q9 :: q10 :: q11 :: q12 :: q13 :: q14 :: l) l:= .s (.s (.s (.s (.s (.s (.s (.s (.s (.s (.s (.s (.s (.s (.s .z))))))))))))))
theorem Get.g16 {α:Type}{q0 q1 q2 q3 q4 q5 q6 q7 q8 q9 q10 q11 q12 q13 q14 q15 p:α}{l:List α}:Get (q0 :: q1 :: q2 :: q3 :: q4 :: q5 :: q6 :: q7 :: q8 :: q9 :: q10 :: q11 :: q12 :: q13 :: q14 :: q15 :: p :: l) p:= .s (.s (.s (.s (.s (.s (.s (.s (.s (.s (.s (.s (.s (.s (.s (.s .z)))))))))))))))
theorem Er.g16 {α:Type}{q0 q1 q2 q3 q4 q5 q6 q7 q8 q9 q10 q11 q12 q13 q14 q15 p:α}{l:List α}:Er (q0 :: q1 :: q2 :: q3 :: q4 :: q5 :: q6 :: q7 :: q8 :: q9 :: q10 :: q11 :: q12 :: q13 :: q14 :: q15 :: p :: l) p (q0 :: q1 :: q2 :: q3 :: q4 :: q5 :: q6 :: q7 :: q8 :: q9 :: q10 :: q11 :: q12 :: q13 :: q14 :: q15 :: l):= .s (.s (.s (.s (.s (.s (.s (.s (.s (.s (.s (.s (.s (.s (.s (.s .z)))))))))))))))
theorem fG.g16 {q0 q1 q2 q3 q4 q5 q6 q7 q8 q9 q10 q11 q12 q13 q14 q15 p:Asn}{l:List Asn}:fG (q0 :: q1 :: q2 :: q3 :: q4 :: q5 :: q6 :: q7 :: q8 :: q9 :: q10 :: q11 :: q12 :: q13 :: q14 :: q15 :: p :: l) p (q0 :: q1 :: q2 :: q3 :: q4 :: q5 :: q6 :: q7 :: q8 :: q9 :: q10 :: q11 :: q12 :: q13 :: q14 :: q15 :: l):= .s (.s (.s (.s (.s (.s (.s (.s (.s (.s (.s (.s (.s (.s (.s (.s .z)))))))))))))))
theorem Sb.g16 {q0 q1 q2 q3 q4 q5 q6 q7 q8 q9 q10 q11 q12 q13 q14 q15:Asn}{l:List Asn}:Sb (q0 :: q1 :: q2 :: q3 :: q4 :: q5 :: q6 :: q7 :: q8 :: q9 :: q10 :: q11 :: q12 :: q13 :: q14 :: q15 :: l) l:= .s (.s (.s (.s (.s (.s (.s (.s (.s (.s (.s (.s (.s (.s (.s (.s .z)))))))))))))))
section
variable {N:Nat}{w0:World}{S0:Bs}{F:Act→World→Prop}{T:eR}{l l':List Asn}{P:Program}{Q:Exit→Act→World→Prop}{o:Oper}{ops:Array Oper}{rest:List Oper}{d:Nat}
theorem aCd {v : Value} : ∀ {l : List Value} {n : Nat}, n < l.length → mG l n v (l.set n v)
  | _ :: _,0,_=> .z
  | _ :: _,n+1,h=> .s (aCd (by simpa using h))
  | [],_,h=>by simp at h
theorem aEm : ∀ {pre cs fl : List Value}, fl.length = cs.length → tR (pre ++ fl) pre.length cs (pre ++ cs)
  | pre,[],[],_=>by simpa using tR.n
  | pre,c :: cs,f :: fl,h=>by
    have h1:mG (pre++f :: fl) pre.length c ((pre++ [c])++fl):=by
      have:=aCd (v:=c) (l:=pre++f :: fl) (n:=pre.length) (by simp)
      simpa [List.set_append] using this
    have h2:=aEm (pre:=pre++ [c]) (cs:=cs) (fl:=fl) (by simpa using h)
    refine .c h1 ?_
    simpa using h2
  | _,[],_ :: _,h=>by simp at h
  | _,_ :: _,[],h=>by simp at h
theorem aIb {fl cs:List Value} (h:cs.length=fl.length):tR fl 0 cs cs:=by simpa using aEm (pre:= []) h.symm
theorem qW {x:Operand}{t:TypeId}{g e sz c:Nat}{fl:List Value} (ho:o.op= .load t x) (hg:eE P t true) (hx:Val T x (.pointer (some ⟨g,0,none⟩))) (ht:fG l (bV g e sz c fl) l') (hi:(P.info? t).map (·.size)=some fl.length):eO P o T (WS w0 S0 l) (.agg fl.toArray):=
  tI ho hg hi hx (WS.w ht fun _ _ h=>h)
theorem qE {x:Operand}{t:TypeId}{B:Addr}{ecs:List Value} (ho:o.op= .load t x) (hg:eE P t true) (hx:Val T x (.pointer (some B))) (hF:FF w0 S0 B.block) (hc:∀(i:Nat) (u:Value),ecs[i]? =some u→w0.cell? (B.add i)=some u) (hi:(P.info? t).map (·.size)=some ecs.length):eO P o T (WS w0 S0 l) (.agg ecs.toArray):=
  tI ho hg hi hx (WS.aa hF hc)
theorem esW {p x:Operand}{t:TypeId}{g e sz c:Nat}{fl cs:List Value} (ho:o.op= .store t p x) (hp:Val T p (.pointer (some ⟨g,0,none⟩))) (hx:Val T x (.agg cs.toArray)) (hT:fG l (bV g e sz c fl) l') (hi:(P.info? t).map (·.size)=some cs.length) (h1:cs.all (·.oneCell')=true) (hl:Nat.beq cs.length fl.length=true):aF5 P o T w0 S0 l (bV g e sz c cs :: l'):=
  qX (off:=0) ho hi (by rw [jN];exact hp) hx (by rfl) (pX h1) hT (by have:=Nat.eq_of_beq_eq_true hl;omega) (aIb (Nat.eq_of_beq_eq_true hl))
theorem es1 {p x : Operand} {t : TypeId} {v : Value} {g e sz c off : Nat} {fl fl' : List Value} (ho : o.op = .store t p x) (hi : (P.info? t).map (·.size) = some 1) (hp : Val T p (.pointer (some ((⟨g, 0, none⟩ : Addr).add off)))) (hx : Val T x v) (hv : v.cells.toList = [v])
    (h1:v.oneCell'=true) (hT:fG l (bV g e sz c fl) l') (hb:Nat.blt off fl.length=true) (hq:mG fl off v fl'):aF5 P o T w0 S0 l (bV g e sz c fl' :: l'):=
  qX (cs:= [v]) ho hi hp hx hv (fun u hu=>by obtain rfl:=List.mem_singleton.1 hu;exact h1) hT (Nat.le_of_ble_eq_true hb) (.c hq .n)
theorem cU {fn:Func}{s ty g e sz c:Nat}{cs:List Value} (hr:fn.results= #[.cell s ty]) (h:Get T (s,.pointer (some ⟨g,0,none⟩))) (hg:eE P ty true) (ht:fG l (bV g e sz c cs) l') (hi:(P.info? ty).map (·.size)=some cs.length):
    ∀(a:Act) (w:World),Holds T a→WS w0 S0 l w→(results fn a.tmps).run P w= .ok (.agg cs.toArray) w:=aL5 hr h hg hi (WS.w ht fun _ _ h=>h)
theorem pv0:∀a:Act,Holds T a→((#[]:Array (Nat×Operand)).map fun(i,x)=>(i,a.eval x))=([]:List (Nat×Value)).toArray:=fun _ _=>by simp
theorem pv1 {i:Nat}{x:Operand}{v:Value} (h:Val T x v):∀a:Act,Holds T a→((#[(i,x)]:Array (Nat×Operand)).map fun(i,x)=>(i,a.eval x))= [(i,v)].toArray:=fun a ha=>by simp [h a ha]
theorem pv2 {i j:Nat}{x y:Operand}{v u:Value} (h:Val T x v) (k:Val T y u):∀a:Act,Holds T a→((#[(i,x),(j,y)]:Array (Nat×Operand)).map fun(i,x)=>(i,a.eval x))= [(i,v),(j,u)].toArray:=fun a ha=>by simp [h a ha,k a ha]
theorem pv3 {i j m:Nat}{x y z:Operand}{v u r:Value} (h:Val T x v) (k:Val T y u) (q:Val T z r):∀a:Act,Holds T a→((#[(i,x),(j,y),(m,z)]:Array (Nat×Operand)).map fun(i,x)=>(i,a.eval x))= [(i,v),(j,u),(m,r)].toArray:=fun a ha=>by simp [h a ha,k a ha,q a ha]
theorem pv4 {i j m n:Nat}{x y z p:Operand}{v u r s:Value} (h:Val T x v) (k:Val T y u) (q:Val T z r) (q':Val T p s):∀a:Act,Holds T a→((#[(i,x),(j,y),(m,z),(n,p)]:Array (Nat×Operand)).map fun(i,x)=>(i,a.eval x))= [(i,v),(j,u),(m,r),(n,s)].toArray:=fun a ha=>by simp [h a ha,k a ha,q a ha,q' a ha]
theorem Y.mv {s:Nat}{v:Value} (hk:okd o N T=some d) (h:Get T (s,v)) (k:Y N w0 S0 (wpList P ops Q rest) ((d,v) :: T) l) (ho:o.op= .move (.tmp s):=by exact rfl):Y N w0 S0 (wpList P ops Q (o :: rest)) T l:=Y.ql hk (aR ho (.t h)) k
theorem Y.as {s:Nat}{v:Value} (hk:okd o N T=some d) (h:Get T (s,v)) (k:Y N w0 S0 (wpList P ops Q rest) ((d,v) :: T) l) (ho:o.op= .assign (.tmp s):=by exact rfl):Y N w0 S0 (wpList P ops Q (o :: rest)) T l:=Y.ql hk (aA ho (.t h)) k
theorem Y.fa {s : Nat} {t : TypeId} {f off : Nat} {ad : Addr} (hk : okd o N T = some d) (h : Get T (s, .pointer (some ad))) (hs : ∀ (ad : Addr) (w : World), (Instr.fieldAt t (.pointer (some ad)) f).run P w = .ok (.pointer (some (ad.add off))) w)
    (k:Y N w0 S0 (wpList P ops Q rest) ((d,.pointer (some (ad.add off))) :: T) l) (ho:o.op= .fieldAddr t (.tmp s) f:=by exact rfl):Y N w0 S0 (wpList P ops Q (o :: rest)) T l:=Y.ql hk (aN ho (.t h) (hs ad)) k
theorem Y.ld {s : Nat} {t : TypeId} {g e sz c i : Nat} {fl : List Value} {v : Value} (hk : okd o N T = some d) (hg : eE P t false) (h : Get T (s, .pointer (some ((⟨g, 0, none⟩ : Addr).add i)))) (ht : fG l (bV g e sz c fl) l')
    (k:Y N w0 S0 (wpList P ops Q rest) ((d,v) :: T) l) (ho:o.op= .load t (.tmp s):=by exact rfl) (hv:fl[i]? =some v:=by exact rfl):Y N w0 S0 (wpList P ops Q (o :: rest)) T l:=Y.ql hk (aM ho hg (.t h) (WS.g ht hv)) k
theorem Y.le {s : Nat} {t : TypeId} {B : Addr} {ecs : List Value} {i : Nat} {v : Value} (hk : okd o N T = some d) (hg : eE P t false) (h : Get T (s, .pointer (some (B.add i)))) (hF : FF w0 S0 B.block) (hc : ∀ (i : Nat) (u : Value), ecs[i]? = some u → w0.cell? (B.add i) = some u)
    (k:Y N w0 S0 (wpList P ops Q rest) ((d,v) :: T) l) (ho:o.op= .load t (.tmp s):=by exact rfl) (hv:ecs[i]? =some v:=by exact rfl):Y N w0 S0 (wpList P ops Q (o :: rest)) T l:=Y.ql hk (aM ho hg (.t h) (WS.el hF hc hv)) k
theorem xI {d:Nat} (h:okd o N T=some d):o.guard=none∧o.dst=some d∧d<N∧nG d T=true:=by
  unfold okd at h
  cases hd:o.dst with
  | none=>rw [hd] at h;cases h
  | some d'=>
    rw [hd] at h
    simp only at h
    cases hc:(o.guard.isNone && Nat.blt d' N && nG d' T) with
    | false=>rw [hc] at h;cases h
    | true=>
      rw [hc] at h
      obtain rfl:=Option.some.inj h
      simp only [Bool.and_eq_true,Option.isNone_iff_eq_none] at hc
      exact⟨hc.1.1,rfl,Nat.le_of_ble_eq_true hc.1.2,hc.2⟩
theorem Y.cl {f : FuncId} {fn : Func} {as_ : Array Operand} {ts : Array TypeId} {args : Array Value} {lc lr : List Asn} {R : Value → List Asn → Prop} (hk : okd o N T = some d) (ho : o.op = .call { callee := .value (.func f), args := as_, argTypes := ts }) (hf : P.funcs[f]? = some fn) (hb : fn.body.isSome = true) (hn : (fn.name == "runtime.NumGoroutine") = false)
    (ha:∀a:Act,Holds T a→as_.map a.eval=args) (hT:mT l lc lr) (ht:∀w S1,cI lc w S1→Tr w0 S0 w S1 lr→Calls P f args w (aI w S1 R)) (h:∀v l',R v l'→Y N w0 S0 (wpList P ops Q rest) ((d,v) :: T) (l'++lr)):Y N w0 S0 (wpList P ops Q (o :: rest)) T l:=by
  obtain⟨h1,h2,h3,h4⟩:=xI hk
  exact Y.call (aE h1) h2 h3 h4 (bE ho hf hb hn ha) hT ht h
theorem Y.el {R:Value→List Asn→Prop} (hk:okd o N T=some d) (he:Eff P o T w0 S0 l R) (h:∀v l',R v l'→Y N w0 S0 (wpList P ops Q rest) ((d,v) :: T) l'):Y N w0 S0 (wpList P ops Q (o :: rest)) T l:=by
  obtain⟨h1,h2,h3,h4⟩:=xI hk
  exact Y.e (aE h1) h2 h3 h4 he h
theorem Y.dk {K : Act → World → Prop} {last i : Nat} {lk : List Asn} {r : List (Nat × Bool)} {v : Value} (ho : ops[i]? = some o) (hk : okd o N T = some d) (hs : Sb l lk) (hq : eO P o T (WS w0 S0 lk) v)
    (h:Y N w0 S0 (iI P ops (NoPanic Q) (WS w0 S0 lk) last K r) ((d,v) :: T) l):Y N w0 S0 (iI P ops (NoPanic Q) (WS w0 S0 lk) last K ((i,true) :: r)) T l:=by
  obtain⟨h1,h2,h3,h4⟩:=xI hk
  exact Y.dq ho h1 h2 h3 h4 hs hq h
theorem Y.dm {K:Act→World→Prop}{last i:Nat}{lk:List Asn}{r:List (Nat×Bool)}{s:Nat}{v:Value} (hi:ops[i]? =some o) (hk:okd o N T=some d) (hs:Sb l lk) (h:Get T (s,v)) (k:Y N w0 S0 (iI P ops (NoPanic Q) (WS w0 S0 lk) last K r) ((d,v) :: T) l) (ho:o.op= .move (.tmp s):=by exact rfl):Y N w0 S0 (iI P ops (NoPanic Q) (WS w0 S0 lk) last K ((i,true) :: r)) T l:=Y.dk hi hk hs (aR ho (.t h)) k
theorem Y.df {K : Act → World → Prop} {last i : Nat} {lk : List Asn} {r : List (Nat × Bool)} {s : Nat} {t : TypeId} {f off : Nat} {ad : Addr} (hi : ops[i]? = some o) (hk : okd o N T = some d) (hs : Sb l lk) (h : Get T (s, .pointer (some ad))) (hf : ∀ (ad : Addr) (w : World), (Instr.fieldAt t (.pointer (some ad)) f).run P w = .ok (.pointer (some (ad.add off))) w)
    (k:Y N w0 S0 (iI P ops (NoPanic Q) (WS w0 S0 lk) last K r) ((d,.pointer (some (ad.add off))) :: T) l) (ho:o.op= .fieldAddr t (.tmp s) f:=by exact rfl):Y N w0 S0 (iI P ops (NoPanic Q) (WS w0 S0 lk) last K ((i,true) :: r)) T l:=Y.dk hi hk hs (aN ho (.t h) (hf ad)) k
theorem Y.dl {K : Act → World → Prop} {last i : Nat} {lk : List Asn} {r : List (Nat × Bool)} {s : Nat} {t : TypeId} {g e sz c j : Nat} {fl : List Value} {v : Value} {lr : List Asn} (hi : ops[i]? = some o) (hk : okd o N T = some d) (hs : Sb l lk) (hg : eE P t false) (h : Get T (s, .pointer (some ((⟨g, 0, none⟩ : Addr).add j)))) (ht : fG lk (bV g e sz c fl) lr)
    (k:Y N w0 S0 (iI P ops (NoPanic Q) (WS w0 S0 lk) last K r) ((d,v) :: T) l) (ho:o.op= .load t (.tmp s):=by exact rfl) (hv:fl[j]? =some v:=by exact rfl):Y N w0 S0 (iI P ops (NoPanic Q) (WS w0 S0 lk) last K ((i,true) :: r)) T l:=Y.dk hi hk hs (aM ho hg (.t h) (WS.g ht hv)) k
theorem Y.de {K : Act → World → Prop} {last i : Nat} {lk : List Asn} {r : List (Nat × Bool)} {s : Nat} {t : TypeId} {B : Addr} {ecs : List Value} {j : Nat} {v : Value} (hi : ops[i]? = some o) (hk : okd o N T = some d) (hs : Sb l lk) (hg : eE P t false) (h : Get T (s, .pointer (some (B.add j)))) (hF : FF w0 S0 B.block) (hc : ∀ (i : Nat) (u : Value), ecs[i]? = some u → w0.cell? (B.add i) = some u)
    (k:Y N w0 S0 (iI P ops (NoPanic Q) (WS w0 S0 lk) last K r) ((d,v) :: T) l) (ho:o.op= .load t (.tmp s):=by exact rfl) (hv:ecs[j]? =some v:=by exact rfl):Y N w0 S0 (iI P ops (NoPanic Q) (WS w0 S0 lk) last K ((i,true) :: r)) T l:=Y.dk hi hk hs (aM ho hg (.t h) (WS.el hF hc hv)) k
theorem Y.dn {K:Act→World→Prop}{last i:Nat}{lk:List Asn}{r:List (Nat×Bool)}{s:Nat}{ad:Addr} (hi:ops[i]? =some o) (hk:okd o N T=some d) (hs:Sb l lk) (h:Get T (s,.pointer (some ad))) (k:Y N w0 S0 (iI P ops (NoPanic Q) (WS w0 S0 lk) last K r) ((d,.pointer (some ad)) :: T) l) (ho:o.op= .nilCheck (.tmp s):=by exact rfl):Y N w0 S0 (iI P ops (NoPanic Q) (WS w0 S0 lk) last K ((i,true) :: r)) T l:=Y.dk hi hk hs (dZ ho (.t h)) k
theorem Y.nc {s:Nat}{ad:Addr} (hk:okd o N T=some d) (h:Get T (s,.pointer (some ad))) (k:Y N w0 S0 (wpList P ops Q rest) ((d,.pointer (some ad)) :: T) l) (ho:o.op= .nilCheck (.tmp s):=by exact rfl):Y N w0 S0 (wpList P ops Q (o :: rest)) T l:=Y.ql hk (dZ ho (.t h)) k
theorem Y.nt {K:Act→World→Prop} (h:Y N w0 S0 K T l):Y N w0 S0 (wpList P ops (Exit.then K Q) []) T l:=Y.nil (Y.g h)
def qs (i n:Nat):List (Nat×Bool):=(List.range n).map fun k=>(i+k,true)
theorem Y.qg {j t:Nat}{b:Bool}{v:Value} (hg:o.guard=some (j,b)) (hj:(ops[j]?).bind (·.dst)=some t) (ht:Get T (t,.bool b)) (hd:o.dst=some d) (hN:Nat.blt d N=true) (hf:nG d T=true) (hq:eO P o T (WS w0 S0 l) v) (h:Y N w0 S0 (wpList P ops Q rest) ((d,v) :: T) l):Y N w0 S0 (wpList P ops Q (o :: rest)) T l:=
  Y.q (eB hg hj ht) hd (Nat.le_of_ble_eq_true hN) hf hq h
theorem Y.dr {lk : List Asn} {id : Nat} {os : List Oper} (hl : Sb l lk) (last : Nat) (hm : P.follows .mixedOrders = true)
    (h:Y N w0 S0 (wpL P .any os.toArray (NoPanic Q) (WS w0 S0 lk) last os.length (Array.replicate os.length false)) T l):Y N w0 S0 ((Code.region id os.toArray true).wp P Q) T l:=Y.a0 lk last hm h
def aKg (sch:List (Nat×Bool)) (a:Array Bool):Array Bool:=sch.foldl (fun a p=>a.setIfInBounds p.1 true) a
theorem Y.sc {last : Nat} {lk : List Asn} {md : Region.Mode} (sch : List (Nat × Bool)) {m : Nat} {listed : Array Bool} (hc : (Nat.ble sch.length m && aK9 md ops last sch listed (aKg sch listed)) = true)
    (h:Y N w0 S0 (iI P ops (NoPanic Q) (WS w0 S0 lk) last (wpL P md ops (NoPanic Q) (WS w0 S0 lk) last (m - sch.length) (aKg sch listed)) sch) T l):Y N w0 S0 (wpL P md ops (NoPanic Q) (WS w0 S0 lk) last m listed) T l:=by
  simp only [Bool.and_eq_true] at hc
  exact Y.av sch (m - sch.length) _ (by have:=Nat.le_of_ble_eq_true hc.1;omega) hc.2 h
end
theorem Y.aw {N : Nat} {w0 : World} {S0 : Bs} {T : eR} {l : List Asn} {P : Program} {Q : Exit → Act → World → Prop} {x y : Code} {γ : Type} (Tm : γ → eR) (lm : γ → List Asn) (φ : γ → Prop)
    (hx:Y N w0 S0 (x.wp P (Exit.then (fun a w=>a.defers= []∧a.tmps.size=N∧∃g',φ g'∧Holds (Tm g') a∧WS w0 S0 (lm g') w) Q)) T l) (hy:∀g,φ g→Y N w0 S0 (y.wp P Q) (Tm g) (lm g)):Y N w0 S0 ((Code.seq x y).wp P Q) T l:=by
  refine Y.seq fun a w h1 h2 h3 h4=> ?_
  refine Code.wp_mono (fun e a' w' h=> ?_) (hx a w h1 h2 h3 h4)
  cases e with
  | normal=>obtain⟨k1,k2,g,hg,k3,k4⟩:=h;exact hy g hg a' w' k1 k2 k3 k4
  | exit id=>exact h
  | goto l=>exact h
  | ret=>exact h
  | panic ch=>exact h
  | outgrown=>exact h
theorem Y.ao {N:Nat}{w0:World}{S0:Bs}{T:eR}{l:List Asn}{Q:Exit→Act→World→Prop}{γ:Type}{Tm:γ→eR}{lm:γ→List Asn}{φ:γ→Prop} (g':γ) (hg:φ g') (hT:Sub T (Tm g')) (hl:∀w,WS w0 S0 l w→WS w0 S0 (lm g') w):
    Y N w0 S0 (Exit.then (fun a w=>a.defers= []∧a.tmps.size=N∧∃g',φ g'∧Holds (Tm g') a∧WS w0 S0 (lm g') w) Q .normal) T l:=
  fun _ w h1 h2 h3 h4=>⟨h1,h2,g',hg,hT.holds h3,hl w h4⟩
end Go.Proofs.YtmejbfmhaoilmaaGreatDoor
/- What is proved: the disk, as plain functions on data, and when each answer comes. No condition. -/
namespace Go.Proofs.YtmejbfmhaoilmaaGreatDoor
set_option linter.unusedVariables false
set_option linter.unusedSimpArgs false
def oT {α : Type} (f : α → Int) : List α → Int
  | []=>0
  | x :: xs=>if f x=0 then oT f xs else f x
theorem vV {α:Type}{f:α→Int}{xs:List α} (h:∀(j:Nat) x,xs[j]? =some x→f x=0):oT f xs=0:=by
  induction xs with
  | nil=>rfl
  | cons x xs ih=>
    simp only [oT,h 0 x rfl,if_true]
    exact ih (fun j y hy=>h (j+1) y hy)
theorem qK {α : Type} {f : α → Int} : ∀ {xs : List α} {k : Nat} {x : α}, xs[k]? = some x → f x ≠ 0 → (∀ j y, j < k → xs[j]? = some y → f y = 0) → oT f xs = f x
  | [],k,x,h,_,_=>by simp at h
  | y :: xs,0,x,h,hn,_=>by
    simp at h;subst h
    simp only [oT,if_neg hn]
  | y :: xs,k+1,x,h,hn,ha=>by
    simp only [oT,ha 0 y (by omega) rfl,if_true]
    exact qK (by simpa using h) hn (fun j z hj hz=>ha (j+1) z (by omega) (by simpa using hz))
theorem xS {α:Type} (p:α→Bool) (xs:List α):decide (0≤eX p xs)=xs.any p:=by
  unfold eX
  cases h:xs.findIdx? p with
  | none=>
    have:xs.any p=false:=by rw [List.any_eq_false];intro x hx;have:=List.findIdx?_eq_none_iff.1 h x hx;simp [this]
    rw [this];rfl
  | some i=>
    have:xs.any p=true:=by
      rw [List.any_eq_true]
      obtain⟨hi,hp,_⟩:=List.findIdx?_eq_some_iff_getElem.1 h
      exact⟨_,List.getElem_mem hi,hp⟩
    rw [this];simp
abbrev bQ (n:Nat) (at_:Int):Prop:=0≤at_∧at_≤(n:Int) - 1
theorem kO {α:Type}{xs:List α}{k:Nat}{x:α} (h:xs[k]? =some x):xs.take k++ [x]=xs.take (k+1):=by
  rw [List.take_add_one,h];rfl
def aJ5 (n:Nat) (e:aLw):Prop:=(1≤e.key∧e.key≤9999)∧(0≤e.frm∧e.frm≤n)∧(1≤e.cnt∧e.cnt≤n)∧e.frm+e.cnt≤n
instance (n:Nat) (e:aLw):Decidable (aJ5 n e):=by unfold aJ5;infer_instance
abbrev aOu (a:Int) (e:aLw):Prop:=e.frm≤a∧a≤e.frm+e.cnt - 1
theorem sV {α : Type} {f : α → Int} : ∀ {xs : List α}, oT f xs = 0 → ∀ x, x ∈ xs → f x = 0
  | [],_,x,hx=>by cases hx
  | y :: xs,h,x,hx=>by
    unfold oT at h
    by_cases hy:f y=0
    · rw [if_pos hy] at h
      rcases List.mem_cons.1 hx with rfl | hx
      · exact hy
      · exact sV h x hx
    · rw [if_neg hy] at h;exact absurd h hy
end Go.Proofs.YtmejbfmhaoilmaaGreatDoor
/- What is proved: names, inodes and their faults, in plain Lean. No condition. -/
namespace Go.Proofs.YtmejbfmhaoilmaaGreatDoor
open Go Go.RowKit
set_option linter.unusedVariables false
set_option linter.unusedSimpArgs false
abbrev wE (b:UInt8):Prop:=(97:Int)≤(b.toNat:Int)∧(b.toNat:Int)≤122
def aV (s:ByteArray):Int:=if s.data.toList.all (fun b=>decide (wE b))=true then(if s.size=0 then 5 else if 4<s.size then 2 else 0)else 5
theorem oF {s:ByteArray}{k:Nat}{b:UInt8} (hb:s.data.toList[k]? =some b) (h:¬wE b):aV s=5:=by
  unfold aV
  rw [if_neg]
  intro ha
  exact h (of_decide_eq_true (List.all_eq_true.1 ha b (List.mem_of_getElem? hb)))
theorem aFk {s:ByteArray} (h:∀j b,j<s.size→s.data.toList[j]? =some b→wE b):s.data.toList.all (fun b=>decide (wE b))=true:=
  List.all_eq_true.2 fun b hb=>by
    obtain⟨j,hj⟩:=List.mem_iff_getElem?.1 hb
    exact decide_eq_true (h j b (by have:=(List.getElem?_eq_some_iff.1 hj).1;rw [iG] at this;exact this) hj)
theorem aFe {s:ByteArray} (h:¬s=⟨#[]⟩):¬s.size=0:=fun h0=>h (by
  cases s with
  | mk d => have : d.size = 0 := h0
            rw [Array.size_eq_zero_iff] at this
            rw [this])
theorem hJ {s:ByteArray} (h:s=⟨#[]⟩):aV s=5:=by
  subst h
  decide
theorem iC {s:ByteArray} (hall:∀j b,j<s.size→s.data.toList[j]? =some b→wE b) (h:¬s=⟨#[]⟩) (h4:(4:Int)<(s.size:Int)):aV s=2:=by
  unfold aV
  rw [if_pos (aFk hall),if_neg (aFe h),if_pos (by omega)]
theorem hY {s:ByteArray} (hall:∀j b,j<s.size→s.data.toList[j]? =some b→wE b) (h:¬s=⟨#[]⟩) (h4:¬(4:Int)<(s.size:Int)):aV s=0:=by
  unfold aV
  rw [if_pos (aFk hall),if_neg (aFe h),if_neg (by omega)]
theorem oU {s:ByteArray} (h:aV s=0):s.size≤4∧0<s.size:=by
  unfold aV at h
  split at h
  · split at h
    · exact absurd h (by decide)
    · split at h
      · exact absurd h (by decide)
      · omega
  · exact absurd h (by decide)
theorem aHf : ∀ x y : List UInt8, (Op.bytesLess x y || decide (x = y)) = !Op.bytesLess y x
  | [],[]=>by simp [Op.bytesLess]
  | [],b :: y=>by simp [Op.bytesLess]
  | a :: x,[]=>by simp [Op.bytesLess]
  | a :: x,b :: y=>by
    have ih:=aHf x y
    simp only [Op.bytesLess,List.cons.injEq]
    by_cases h:a=b
    · subst h
      have:¬a<a:=UInt8.lt_irrefl a
      simp [this] at ih ⊢
      exact ih
    · have h' : ¬ b = a := fun e => h e.symm
      simp [h,h']
      rcases UInt8.lt_or_lt_of_ne h with g | g
      · have : ¬ b < a := UInt8.lt_asymm g
        simp [g,this,UInt8.le_of_lt g]
        exact .inl h'
      · have : ¬ a < b := UInt8.lt_asymm g
        simp [g,this]
        exact fun e=>absurd e h
theorem toList_inj {s u:ByteArray}:s.toList=u.toList↔s=u:=by
  constructor
  · intro h
    have h2:s.data.toList=u.data.toList:=by simpa [ByteArray.toList_eq] using h
    cases s;cases u
    simp at h2
    rw [h2]
  · rintro rfl;rfl
theorem rZ (s u:ByteArray):(sLt s u || decide (s=u))= !sLt u s:=by
  have:=aHf s.toList u.toList
  unfold sLt
  rw [←this]
  congr 1
  rw [decide_eq_decide]
  exact toList_inj.symm
def gD (x:aF):Int:=
  if (1 ≤ x.links ∧ x.links ≤ 60) ∧ (0 ≤ x.size ∧ x.size ≤ 32) then
    if (x.blocks.length : Int) = (x.size + 7) / 8 then
      if x.blocks.any (fun b=> !decide (0≤b∧b≤19))=true then 3 else if x.blocks.Nodup then 0 else 7
    else 1
  else 3
theorem cW {x:aF} (h:¬((1≤x.links∧x.links≤60)∧(0≤x.size∧x.size≤32))):gD x=3:=if_neg h
theorem cX {x:aF} (h:(1≤x.links∧x.links≤60)∧(0≤x.size∧x.size≤32)) (h2:¬(x.blocks.length:Int)=(x.size+7) / 8):gD x=1:=by
  unfold gD;rw [if_pos h,if_neg h2]
theorem dC {x:aF} (h:(1≤x.links∧x.links≤60)∧(0≤x.size∧x.size≤32)) (h2:(x.blocks.length:Int)=(x.size+7) / 8) (h3:x.blocks.any (fun b=> !decide (0≤b∧b≤19))=true):gD x=3:=by
  unfold gD;rw [if_pos h,if_pos h2,if_pos h3]
theorem vR {x:aF} (h:(1≤x.links∧x.links≤60)∧(0≤x.size∧x.size≤32)) (h2:(x.blocks.length:Int)=(x.size+7) / 8) (h3:x.blocks.any (fun b=> !decide (0≤b∧b≤19))=false) (h4:¬x.blocks.Nodup):gD x=7:=by
  unfold gD;rw [if_pos h,if_pos h2,if_neg (by rw [h3];decide),if_neg h4]
theorem cY {x:aF} (h:(1≤x.links∧x.links≤60)∧(0≤x.size∧x.size≤32)) (h2:(x.blocks.length:Int)=(x.size+7) / 8) (h3:x.blocks.any (fun b=> !decide (0≤b∧b≤19))=false) (h4:x.blocks.Nodup):gD x=0:=by
  unfold gD;rw [if_pos h,if_pos h2,if_neg (by rw [h3];decide),if_pos h4]
theorem aEy {α:Type}{xs:List α}{k:Nat}{b:α} (h:(xs.take k).Nodup) (hb:xs[k]? =some b) (hn:¬b∈xs.take k):(xs.take (k+1)).Nodup:=by
  rw [←kO hb]
  exact List.nodup_append.2 ⟨h,by simp,fun a ha c hc=>by
    obtain rfl:=List.mem_singleton.1 hc
    exact fun e=>hn (e ▸ ha)⟩
theorem zI {α:Type}{xs:List α}{k:Nat}{b:α} (hb:xs[k]? =some b) (hm:b∈xs.take k):¬xs.Nodup:=fun h=>by
  have:(xs.take (k+1)).Nodup:=h.sublist (List.take_sublist _ _)
  rw [←kO hb] at this
  exact(List.nodup_append.1 this).2.2 b hm b (List.mem_singleton.2 rfl) rfl
theorem aB4 {α:Type}{xs:List α}{k q:Nat}{b:α} (hb:xs[q]? =some b) (h:q<k):b∈xs.take k:=by
  refine List.mem_of_getElem? (i:=q) ?_
  rw [List.getElem?_take,if_pos h]
  exact hb
theorem tO {α:Type}{xs:List α}{k:Nat}{b:α} (h:∀j y,j<k→xs[j]? =some y→¬y=b):¬b∈xs.take k:=fun hm=>by
  obtain⟨j,hj⟩:=List.mem_iff_getElem?.1 hm
  rw [List.getElem?_take] at hj
  split at hj
  · rename_i hlt;exact h j b hlt hj rfl
  · cases hj
theorem aFg {xs:List Int}{k:Nat}{b:Int} (hb:xs[k]? =some b) (h:¬(0≤b∧b≤19)):xs.any (fun b=> !decide (0≤b∧b≤19))=true:=
  List.any_eq_true.2 ⟨b,List.mem_of_getElem? hb,by simp only [decide_eq_false h];rfl⟩
theorem oW {xs:List Int} (h:∀j b,j<xs.length→xs[j]? =some b→0≤b∧b≤19):xs.any (fun b=> !decide (0≤b∧b≤19))=false:=by
  rw [List.any_eq_false]
  intro b hb
  obtain⟨j,hj⟩:=List.mem_iff_getElem?.1 hb
  rw [decide_eq_true (h j b (List.getElem?_eq_some_iff.1 hj).1 hj)]
  decide
def iP (xs:List Int):Int:=if 20<xs.length then 2 else if xs.any (fun b=> !decide (0≤b∧b≤19))=true then 3 else 0
theorem qR {xs:List Int} (h:(20:Int)<(xs.length:Int)):iP xs=2:=if_pos (by omega)
theorem qU {xs:List Int} (h:¬(20:Int)<(xs.length:Int)) (h2:xs.any (fun b=> !decide (0≤b∧b≤19))=true):iP xs=3:=by unfold iP;rw [if_neg (by omega),if_pos h2]
theorem lP {xs:List Int} (h:¬(20:Int)<(xs.length:Int)) (h2:xs.any (fun b=> !decide (0≤b∧b≤19))=false):iP xs=0:=by unfold iP;rw [if_neg (by omega),if_neg (by rw [h2];decide)]
def nJ (es:List bO) (j:Nat) (e:bO):Int:=
  if aV e.name=0 then if 0≤e.ino∧e.ino≤9 then(match (if j=0 then none else es[j - 1]?) with | some p=>if sLt p.name e.name=true then 0 else 1 | none=>0)else 3 else aV e.name
def pF (es:List bO) (j:Nat):Int:=match es[j]? with | some e=>nJ es j e | none=>0
def aAj (f:Nat→Int) (n:Nat):Int:=oT f (List.range n)
theorem vQ {f:Nat→Int}{n k:Nat} (hk:k<n) (h:¬f k=0) (ha:∀j,j<k→f j=0):aAj f n=f k:=
  qK (k:=k) (x:=k) (by simp [hk]) h (fun j y hj hy=>by
    have:j<n:=by omega
    simp [this] at hy
    subst hy
    exact ha j hj)
theorem aBl {f:Nat→Int}{n:Nat} (ha:∀j,j<n→f j=0):aAj f n=0:=
  vV (fun j y hy=>by
    have:=(List.getElem?_eq_some_iff.1 hy)
    obtain⟨h1,h2⟩:=this
    simp at h1 h2
    subst h2
    exact ha j h1)
def iR (x:aF):Int:=if 6<x.ents.length then 2 else aAj (pF x.ents) x.ents.length
theorem iW {x:aF} (h:(6:Int)<(x.ents.length:Int)):iR x=2:=if_pos (by omega)
theorem fT {x:aF}{k:Nat}{e:bO} (h:¬(6:Int)<(x.ents.length:Int)) (he:x.ents[k]? =some e) (hn:¬nJ x.ents k e=0) (ha:∀j,j<k→pF x.ents j=0):iR x=nJ x.ents k e:=by
  have e1:pF x.ents k=nJ x.ents k e:=by unfold pF;rw [he]
  unfold iR
  rw [if_neg (by omega),vQ (List.getElem?_eq_some_iff.1 he).1 (by rw [e1];exact hn) ha,e1]
theorem iD {x:aF} (h:¬(6:Int)<(x.ents.length:Int)) (ha:∀j,j<x.ents.length→pF x.ents j=0):iR x=0:=by
  unfold iR;rw [if_neg (by omega),aBl ha]
theorem kX {es:List bO}{j:Nat}{e:bO} (h:¬aV e.name=0):nJ es j e=aV e.name:=if_neg h
theorem kZ {es:List bO}{j:Nat}{e:bO} (h:aV e.name=0) (h2:¬(0≤e.ino∧e.ino≤9)):nJ es j e=3:=by unfold nJ;rw [if_pos h,if_neg h2]
theorem wP {es:List bO}{j:Nat}{e p:bO} (h:aV e.name=0) (h2:0≤e.ino∧e.ino≤9) (hj:0<j) (hp:es[j - 1]? =some p) (hl:sLt p.name e.name=false):nJ es j e=1:=by
  unfold nJ;rw [if_pos h,if_pos h2,if_neg (by omega),hp];simp [hl]
theorem aEh {es:List bO}{j:Nat}{e p:bO} (h:aV e.name=0) (h2:0≤e.ino∧e.ino≤9) (hj:0<j) (hp:es[j - 1]? =some p) (hl:sLt p.name e.name=true):nJ es j e=0:=by
  unfold nJ;rw [if_pos h,if_pos h2,if_neg (by omega),hp];simp [hl]
theorem rQ {es:List bO}{j:Nat}{e:bO} (h:aV e.name=0) (h2:0≤e.ino∧e.ino≤9) (hj:j=0):nJ es j e=0:=by
  unfold nJ;rw [if_pos h,if_pos h2,if_pos hj]
theorem wN {es:List bO}{k:Nat}{e:bO} (ha:∀j,j<k→pF es j=0) (he:es[k]? =some e) (h:nJ es k e=0):∀j,j<k+1→pF es j=0:=fun j hj=>by
  by_cases hk:j<k
  · exact ha j hk
  · obtain rfl : j = k := by omega
    unfold pF;rw [he];exact h
def cH (x:aF):Int:=
  if 0 ≤ x.kind ∧ x.kind ≤ 2 then
    if(x.kind≠1∧¬(x.links=0∧x.size=0∧x.blocks.length=0))∨(x.kind≠2∧¬x.ents.length=0)then 1
    else if x.kind=1 then gD x else if x.kind=2 then iR x else 0
  else 1
theorem cM {x:aF} (h:¬(0≤x.kind∧x.kind≤2)):cH x=1:=if_neg h
theorem cK {x:aF} (h:(x.kind≠1∧¬(x.links=0∧x.size=0∧x.blocks.length=0))∨(x.kind≠2∧¬x.ents.length=0)):cH x=1:=by
  unfold cH
  by_cases hk:0≤x.kind∧x.kind≤2
  · rw [if_pos hk,if_pos h]
  · rw [if_neg hk]
theorem cL {x:aF} (h:x.kind=1) (h2:x.ents.length=0):cH x=gD x:=by
  unfold cH;rw [if_pos (by omega),if_neg (by omega),if_pos h]
theorem cE {x:aF} (h:x.kind=2) (h2:x.links=0∧x.size=0∧x.blocks.length=0):cH x=iR x:=by
  unfold cH;rw [if_pos (by omega),if_neg (by omega),if_neg (by omega),if_pos h]
theorem cD {x:aF} (h:x.kind=0) (h2:x.links=0∧x.size=0∧x.blocks.length=0) (h3:x.ents.length=0):cH x=0:=by
  unfold cH;rw [if_pos (by omega),if_neg (by omega),if_neg (by omega),if_neg (by omega)]
theorem cN {x:aF} (h:0≤x.kind∧x.kind≤2) (h1:¬x.kind=1) (h2:x.links=0∧x.size=0∧x.blocks.length=0) (h3:x.kind=2∨x.ents.length=0):cH x=iR x:=by
  by_cases hk:x.kind=2
  · exact cE hk h2
  · rw [cD (by omega) h2 (by omega)]
    exact(iD (by omega) (fun j hj=>by omega)).symm
def aZ (xs:List aF):Int:=if 10<xs.length then 2 else oT cH xs
theorem jZ {xs:List aF} (h:(10:Int)<(xs.length:Int)):aZ xs=2:=if_pos (by omega)
theorem sJ {xs:List aF}{k:Nat}{x:aF} (h:¬(10:Int)<(xs.length:Int)) (hx:xs[k]? =some x) (hn:¬cH x=0) (ha:∀j y,j<k→xs[j]? =some y→cH y=0):aZ xs=cH x:=by
  unfold aZ;rw [if_neg (by omega),qK hx hn ha]
theorem iV {xs:List aF} (h:¬(10:Int)<(xs.length:Int)) (ha:∀j y,j<xs.length→xs[j]? =some y→cH y=0):aZ xs=0:=by
  unfold aZ;rw [if_neg (by omega),vV (fun j y hy=>ha j y (List.getElem?_eq_some_iff.1 hy).1 hy)]
theorem lO {xs:List aF} (h:aZ xs=0):xs.length≤10:=by
  unfold aZ at h
  split at h
  · exact absurd h (by decide)
  · omega
theorem dM {xs:List aF} (h:aZ xs=0):∀x,x∈xs→cH x=0:=by
  unfold aZ at h
  split at h
  · exact absurd h (by decide)
  · exact sV h
theorem yP {x:aF} (h:cH x=0):x.ents.length≤6:=by
  unfold cH at h
  split at h
  · split at h
    · exact absurd h (by decide)
    · split at h
      · omega
      · split at h
        · unfold iR at h
          split at h
          · exact absurd h (by decide)
          · omega
        · omega
  · exact absurd h (by decide)
def oB (a:Int) (e:bO):Nat:=if e.ino=a then 1 else 0
def gR (a:Int) (x:aF):Nat:=gJ (oB a) x.ents
def fV (xs:List aF) (a:Int):Nat:=gJ (gR a) xs
theorem tL {α : Type} {f : α → Nat} {B : Nat} : ∀ {xs : List α}, (∀ x, x ∈ xs → f x ≤ B) → gJ f xs ≤ xs.length * B
  | [],_=>Nat.zero_le _
  | x :: xs,h=>by
    have h1:=h x List.mem_cons_self
    have h2:=tL (xs:=xs) (fun y hy=>h y (List.mem_cons_of_mem _ hy))
    simp only [gJ,List.length_cons,Nat.succ_mul]
    omega
theorem aKt (a:Int) (e:bO):oB a e≤1:=by unfold oB;split <;> omega
theorem xN {xs:List aF} (h:aZ xs=0) (a:Int):fV xs a≤60:=by
  have h1:fV xs a≤xs.length * 6:=tL fun x hx=>by
    have h2:gR a x≤x.ents.length * 1:=tL fun e _=>aKt a e
    have h3:=yP (dM h x hx)
    omega
  have:=lO h
  omega
def dB (xs:List aF):Int:=match xs.findIdx? (fun x=>decide (x.kind=0)) with | some i=>i | none=>if xs.length=10 then -1 else xs.length
theorem aG9 {xs:List aF}{k:Nat}{x:aF} (hx:xs[k]? =some x) (h:x.kind=0) (ha:∀j y,j<k→xs[j]? =some y→¬y.kind=0):dB xs=(k:Int):=by
  have:xs.findIdx? (fun x=>decide (x.kind=0))=some k:=by
    obtain⟨hk,rfl⟩:=List.getElem?_eq_some_iff.1 hx
    exact List.findIdx?_eq_some_iff_getElem.2 ⟨hk,decide_eq_true h,fun j hj=>by
      have:=ha j _ hj (List.getElem?_eq_getElem (by omega))
      simpa using this⟩
  unfold dB
  rw [this]
theorem zX {xs:List aF}{q:Nat} (hq:xs.length≤q) (ha:∀j y,j<q→xs[j]? =some y→¬y.kind=0):xs.findIdx? (fun x=>decide (x.kind=0))=none:=by
  rw [List.findIdx?_eq_none_iff]
  intro y hy
  obtain⟨j,hj⟩:=List.mem_iff_getElem?.1 hy
  have:=ha j y (by have:=(List.getElem?_eq_some_iff.1 hj).1;omega) hj
  simpa using this
theorem wW {xs:List aF}{q:Nat} (hq:xs.length≤q) (ha:∀j y,j<q→xs[j]? =some y→¬y.kind=0) (h:(xs.length:Int)<10):dB xs=(xs.length:Int):=by
  unfold dB;rw [zX hq ha];simp only;rw [if_neg (by omega)]
theorem yJ {xs:List aF}{q:Nat} (hq:xs.length≤q) (ha:∀j y,j<q→xs[j]? =some y→¬y.kind=0) (h:¬(xs.length:Int)<10) (h10:xs.length≤10):dB xs= -1:=by
  unfold dB;rw [zX hq ha];simp only;rw [if_pos (by omega)]
end Go.Proofs.YtmejbfmhaoilmaaGreatDoor
/- What is proved: blocks that are used, free and picked, in plain Lean. No condition. -/
namespace Go.Proofs.YtmejbfmhaoilmaaGreatDoor
open Go Go.RowKit
set_option linter.unusedVariables false
set_option linter.unusedSimpArgs false
def fU (xs:List aF):List Int:=(xs.map (·.blocks)).flatten
def kW (l:List Int):List Int:=l.mergeSort (fun x y=>decide (x≤y))
theorem pN (l:List Int):(kW l).Perm l:=List.mergeSort_perm ..
theorem zN (l:List Int):(kW l).length=l.length:=(pN l).length_eq
theorem iM {l:List Int}{a:Int}:a∈kW l↔a∈l:=(pN l).mem_iff
theorem aAu (l:List Int):(kW l).Pairwise (· ≤ ·):=by
  have:=List.pairwise_mergeSort (le:=fun(x y:Int)=>decide (x≤y)) (fun a b c h k=>by simp at *;omega) (fun a b=>by simp;omega) l
  exact this.imp (fun h=>by simpa using h)
theorem nT {xs:List aF}{k:Nat}{x:aF} (h:xs[k]? =some x):fU (xs.take k)++x.blocks=fU (xs.take (k+1)):=by
  unfold fU
  rw [←kO h]
  simp
theorem aBz (zs:List Int):(Lib.compact zs).length≤zs.length:=by
  unfold Lib.compact Lib.compactUpTo
  rw [List.length_map]
  exact Nat.le_trans (List.length_filter_le _ _) (by simp)
theorem yW {zs:List Int} (h:zs.Nodup):(Lib.compact zs).length=zs.length:=by
  rw [Lib.compact_all zs]
  intro j hj
  by_cases h0:j=0
  · simp [Lib.keeps,h0]
  · refine Lib.keeps_pos ?_
    rw [getElem!_pos zs.toArray j (by simpa using hj),getElem!_pos zs.toArray (j - 1) (by simp;omega)]
    intro e
    have:=List.pairwise_iff_getElem.1 (List.nodup_iff_pairwise_ne.1 h) (j - 1) j (by omega) hj (by omega)
    exact this (by simpa using e.symm)
theorem aBm {zs:List Int} (hs:zs.Pairwise (· ≤ ·)) (h:¬zs.Nodup):(Lib.compact zs).length<zs.length:=by
  -- a place whose left neighbour holds the same
  have hex:∃j,0<j∧∃h1:j<zs.length,zs[j]=zs[j - 1]:=by
    apply Classical.byContradiction
    intro hno
    apply h
    have hlt:∀(d i:Nat) (h1:i+d+1<zs.length),zs[i]<zs[i+d+1]:=by
      intro d
      induction d with
      | zero=>
        intro i h1
        have h2:zs[i]≤zs[i+1]:=List.pairwise_iff_getElem.1 hs i (i+1) (by omega) h1 (by omega)
        have h3:zs[i+1]≠zs[i]:=fun e=>hno ⟨i+1,by omega,h1,by simpa using e⟩
        simp only [Nat.add_zero]
        omega
      | succ d ih=>
        intro i h1
        have h2:=ih i (by omega)
        have h4:zs[i+d+1]≤zs[i+d+1+1]:=List.pairwise_iff_getElem.1 hs (i+d+1) (i+d+1+1) (by omega) (by omega) (by omega)
        have e:i+(d+1)+1=i+d+1+1:=by omega
        simp only [e]
        omega
    rw [List.nodup_iff_pairwise_ne,List.pairwise_iff_getElem]
    intro i j hi hj hij
    have:=hlt (j - i - 1) i (by omega)
    have e:i+(j - i - 1)+1=j:=by omega
    simp only [e] at this
    omega
  obtain⟨j,hj0,hj,he⟩:=hex
  have hk:Lib.keeps zs.toArray j=false:=by
    refine Lib.keeps_neg hj0 ?_
    rw [getElem!_pos zs.toArray j (by simpa using hj),getElem!_pos zs.toArray (j - 1) (by simp;omega)]
    simpa using he
  unfold Lib.compact Lib.compactUpTo
  rw [List.length_map]
  have:=List.length_filter_lt_length_iff_exists (l:=List.range zs.length) (p:=Lib.keeps zs.toArray)
  rw [List.length_range] at this
  exact this.2 ⟨j,List.mem_range.2 hj,by rw [hk];exact Bool.false_ne_true⟩
theorem aCb (l:List Int):((Lib.compact (kW l)).length=(kW l).length)↔l.Nodup:=by
  constructor
  · intro h
    apply Classical.byContradiction
    intro hn
    have:=aBm (aAu l) (fun h2=>hn ((pN l).nodup_iff.1 h2))
    omega
  · intro h
    exact yW ((pN l).nodup_iff.2 h)
def wD (a b:Int):Nat:=if b=a then 1 else 0
def aAg (a:Int) (x:aF):Nat:=gJ (wD a) x.blocks
def countB (xs:List aF) (a:Int):Nat:=gJ (aAg a) xs
theorem zC (a : Int) : ∀ l : List Int, gJ (wD a) l = l.count a
  | []=>rfl
  | b :: l=>by
    simp only [gJ,zC a l,List.count_cons,wD,beq_iff_eq]
    omega
theorem pM (a : Int) : ∀ xs : List aF, countB xs a = (fU xs).count a
  | []=>rfl
  | x :: xs=>by
    have ih:=pM a xs
    unfold countB fU at ih ⊢
    simp only [gJ,List.map_cons,List.flatten_cons,List.count_append,←ih,aAg,zC]
theorem lW {x:aF} (h:cH x=0):x.blocks.length≤4∧∀b,b∈x.blocks→0≤b∧b≤19:=by
  unfold cH at h
  split at h
  · split at h
    · exact absurd h (by decide)
    · rename_i h1 h2
      split at h
      · unfold gD at h
        split at h
        · split at h
          · split at h
            · exact absurd h (by decide)
            · rename_i h3 h4 h5
              refine⟨by omega,fun b hb=> ?_⟩
              simp only [List.any_eq_true,not_exists,not_and] at h5
              have:=h5 b hb
              simpa using this
          · exact absurd h (by decide)
        · exact absurd h (by decide)
      · have h0 : x.blocks.length = 0 := by omega
        exact⟨by omega,fun b hb=>by rw [List.length_eq_zero_iff.1 h0] at hb;cases hb⟩
  · exact absurd h (by decide)
theorem aF2 {xs:List aF} (h:aZ xs=0) {b:Int} (hb:b∈fU xs):0≤b∧b≤19:=by
  unfold fU at hb
  obtain⟨l,hl,hb⟩:=List.mem_flatten.1 hb
  obtain⟨x,hx,rfl⟩:=List.mem_map.1 hl
  exact(lW (dM h x hx)).2 b hb
theorem aGg {xs:List aF} (h:∀x,x∈xs→cH x=0):(fU xs).length≤xs.length * 4:=by
  induction xs with
  | nil=>simp [fU]
  | cons x xs ih=>
    have h1:=(lW (h x List.mem_cons_self)).1
    have h2:=ih (fun y hy=>h y (List.mem_cons_of_mem _ hy))
    unfold fU at h2 ⊢
    simp only [List.map_cons,List.flatten_cons,List.length_append,List.length_cons]
    omega
theorem oY {xs:List aF} (h:aZ xs=0) (k:Nat):(fU (xs.take k)).length≤40:=by
  have h1:=aGg (xs:=xs.take k) (fun x hx=>dM h x (List.mem_of_mem_take hx))
  have h2:=lO h
  rw [List.length_take] at h1
  omega
theorem aHs {xs:List aF} (h:aZ xs=0) (a:Int):countB xs a≤40:=by
  rw [pM]
  have:=oY h xs.length
  rw [List.take_length] at this
  exact Nat.le_trans List.count_le_length this
def cV (p:Int→Bool) (k:Nat):List Int:=((List.range k).map (fun i:Nat=>(i:Int))).filter p
theorem oM {p:Int→Bool}{k:Nat} (h:p (k:Int)=true):cV p k++ [(k:Int)]=cV p (k+1):=by
  unfold cV
  rw [List.range_succ]
  simp [h]
theorem kL {p:Int→Bool}{k:Nat} (h:p (k:Int)=false):cV p k=cV p (k+1):=by
  unfold cV
  rw [List.range_succ]
  simp [h]
theorem nM {p:Int→Bool}{k:Nat}:(cV p k).length≤k:=by
  unfold cV
  exact Nat.le_trans (List.length_filter_le _ _) (by simp)
theorem uA {p:Int→Bool}{k:Nat}{a:Int}:a∈cV p k↔(0≤a∧a<k)∧p a=true:=by
  unfold cV
  rw [List.mem_filter,List.mem_map]
  constructor
  · rintro ⟨⟨i, hi, rfl⟩, hp⟩
    have:=List.mem_range.1 hi
    exact⟨⟨by omega,by omega⟩,hp⟩
  · rintro ⟨⟨h1, h2⟩, hp⟩
    exact⟨⟨a.toNat,List.mem_range.2 (by omega),by omega⟩,hp⟩
theorem xZ {p q:Int→Bool}{k:Nat} (h:∀a:Int,0≤a→a<k→p a=q a):cV p k=cV q k:=by
  unfold cV
  refine List.filter_congr fun a ha=> ?_
  obtain⟨i,hi,rfl⟩:=List.mem_map.1 ha
  have:=List.mem_range.1 hi
  exact h _ (by omega) (by omega)
def sO (xs:List aF) (k:Nat):Prop:=∀j,j<k→countB xs (j:Int)≤1
instance (xs:List aF) (k:Nat):Decidable (sO xs k):=by unfold sO;infer_instance
theorem jX {xs:List aF}{k:Nat}:sO xs (k+1)↔sO xs k∧countB xs (k:Int)≤1:=by
  unfold sO
  constructor
  · intro h
    exact⟨fun j hj=>h j (by omega),h k (by omega)⟩
  · rintro ⟨h1, h2⟩ j hj
    by_cases hk:j=k
    · subst hk;exact h2
    · exact h1 j (by omega)
theorem aFv {xs:List aF} (h:aZ xs=0):sO xs 20↔(fU xs).Nodup:=by
  rw [List.nodup_iff_count]
  constructor
  · intro ho a
    by_cases ha:a∈fU xs
    · have hb := aF2 h ha
      have:=ho a.toNat (by omega)
      rw [show((a.toNat:Nat):Int)=a by omega,pM] at this
      exact this
    · rw [List.count_eq_zero_of_not_mem ha];omega
  · intro hn j _
    rw [pM]
    exact hn _
abbrev oI (xs:List aF):Int→Bool:=fun a=>decide (0<countB xs a)
abbrev tM (xs:List aF) (busy:List Int):Int→Bool:=fun b=>decide (¬b∈fU xs∧¬b∈busy)
theorem kY {xs:List aF}{a:Int}:(countB xs a:Int)=0↔¬a∈fU xs:=by
  rw [pM]
  constructor
  · intro h ha
    have:=List.count_pos_iff.2 ha
    omega
  · intro h
    rw [List.count_eq_zero_of_not_mem h]
    rfl
def mY (xs:List aF) (busy:List Int):List Int:=cV (tM xs busy) 20
def jC (xs:List aF) (busy:List Int):Int:=if aZ xs=0 then iP busy else aZ xs
theorem aHd {xs:List aF}{busy:List Int} (h:jC xs busy=0):aZ xs=0:=by
  unfold jC at h
  split at h
  · assumption
  · exact h
def nB (xs:List aF) (busy:List Int) (n:Int):qD:=if 0≤n∧n≤4 then if((mY xs busy).length:Int)<n then⟨8,[]⟩else⟨0,(mY xs busy).take n.toNat⟩else⟨3,[]⟩
theorem uP {xs:List aF}{busy:List Int}{n:Int} (h:¬(0≤n∧n≤4)):nB xs busy n=⟨3,[]⟩:=if_neg h
theorem tH {xs:List aF}{busy:List Int}{n:Int} (h:0≤n∧n≤4) (h2:((mY xs busy).length:Int)<n):nB xs busy n=⟨8,[]⟩:=by unfold nB;rw [if_pos h,if_pos h2]
theorem tF {xs:List aF}{busy:List Int}{n:Int} (h:0≤n∧n≤4) (h2:¬((mY xs busy).length:Int)<n):nB xs busy n=⟨0,(mY xs busy).take n.toNat⟩:=by unfold nB;rw [if_pos h,if_neg h2]
def sE (xs:List aF) (busy:List Int) (n:Int):qD:=if jC xs busy=0 then nB xs busy n else⟨jC xs busy,[]⟩
theorem wI {xs:List aF}{busy:List Int}{n:Int} (h:¬jC xs busy=0):sE xs busy n=⟨jC xs busy,[]⟩:=if_neg h
theorem iQ {xs:List aF}{busy:List Int}{n:Int} (h:jC xs busy=0):sE xs busy n=nB xs busy n:=if_pos h
end Go.Proofs.YtmejbfmhaoilmaaGreatDoor
/- What is proved: the words of an inode, and an inode read back, in plain Lean. No condition. -/
namespace Go.Proofs.YtmejbfmhaoilmaaGreatDoor
open Go Go.RowKit
set_option linter.unusedVariables false
set_option linter.unusedSimpArgs false
theorem oN {x:aF} (h:cH x=0):∀(j:Nat) e,x.ents[j]? =some e→aV e.name=0∧0≤e.ino∧e.ino≤9:=by
  unfold cH at h
  split at h
  · split at h
    · exact absurd h (by decide)
    · rename_i h1 h2
      intro j e he
      have hj:=(List.getElem?_eq_some_iff.1 he).1
      split at h
      · omega
      · split at h
        · unfold iR at h
          split at h
          · exact absurd h (by decide)
          · have h3 := sV h j (List.mem_range.2 hj)
            unfold pF at h3
            rw [he] at h3
            simp only [nJ] at h3
            split at h3
            · split at h3
              · rename_i h4 h5;exact⟨h4,h5⟩
              · exact absurd h3 (by decide)
            · contradiction
        · omega
  · exact absurd h (by decide)
end Go.Proofs.YtmejbfmhaoilmaaGreatDoor
/- What is proved: a tree's faults, what a name leads to, in plain Lean. No condition. -/
namespace Go.Proofs.YtmejbfmhaoilmaaGreatDoor
open Go Go.RowKit
set_option linter.unusedVariables false
set_option linter.unusedSimpArgs false
def aY (xs:List aF) (i:Int):Int:=match xs[i.toNat]? with | some x=>x.kind | none=>0
theorem cO {xs:List aF}{i:Int}{j:Nat}{x:aF} (hx:xs[j]? =some x) (h:i=(j:Int)):aY xs i=x.kind:=by
  subst h
  unfold aY
  rw [Int.toNat_natCast,hx]
theorem oX {xs:List aF}{i:Int} (h:(xs.length:Int)≤i):aY xs i=0:=by
  unfold aY
  rw [List.getElem?_eq_none (by omega)]
abbrev oS (xs:List aF) (e:bO):Prop:=aY xs e.ino=0
def fN (f:DFs):Int:=if aZ f.inodes=0 then if f.inodes.length=0∨¬aY f.inodes 0=2∨¬f.data.length=20 then 1 else 0 else aZ f.inodes
theorem dO {f:DFs} (h:¬aZ f.inodes=0):fN f=aZ f.inodes:=if_neg h
theorem dQ {f:DFs} (h:aZ f.inodes=0) (h2:f.inodes.length=0∨¬aY f.inodes 0=2∨¬f.data.length=20):fN f=1:=by unfold fN;rw [if_pos h,if_pos h2]
theorem cG {f:DFs} (h:aZ f.inodes=0) (h1:¬f.inodes.length=0) (h2:aY f.inodes 0=2) (h3:f.data.length=20):fN f=0:=by unfold fN;rw [if_pos h,if_neg (by omega)]
theorem vJ {f:DFs} (h:fN f=0):aZ f.inodes=0∧0<f.inodes.length∧aY f.inodes 0=2∧f.data.length=20:=by
  unfold fN at h
  split at h
  · split at h
    · exact absurd h (by decide)
    · rename_i h1 h2;exact⟨h1,by omega,by omega,by omega⟩
  · contradiction
def yS (f:DFs):Bool:=f.data.any (fun b=>decide ((8:Int)<(b.length:Int)))
def aCp (f:DFs):Bool:=f.inodes.any (fun x=>x.ents.any (fun e=>decide (oS f.inodes e)))
def aX (f:DFs):Int:=if fN f=0 then if yS f=true then 2 else if(fU f.inodes).Nodup then if aCp f=true then 4 else 0 else 7 else fN f
theorem dN {f:DFs} (h:¬fN f=0):aX f=fN f:=if_neg h
theorem fD {f:DFs} (h:fN f=0) (h2:yS f=true):aX f=2:=by unfold aX;rw [if_pos h,if_pos h2]
theorem fE {f:DFs} (h:fN f=0) (h2:yS f=false) (h3:¬(fU f.inodes).Nodup):aX f=7:=by unfold aX;rw [if_pos h,if_neg (by rw [h2];decide),if_neg h3]
theorem oE {f:DFs} (h:fN f=0) (h2:yS f=false) (h3:(fU f.inodes).Nodup) (h4:aCp f=true):aX f=4:=by unfold aX;rw [if_pos h,if_neg (by rw [h2];decide),if_pos h3,if_pos h4]
theorem fB {f:DFs} (h:fN f=0) (h2:yS f=false) (h3:(fU f.inodes).Nodup) (h4:aCp f=false):aX f=0:=by unfold aX;rw [if_pos h,if_neg (by rw [h2];decide),if_pos h3,if_neg (by rw [h4];decide)]
theorem aHg {f:DFs}{k:Nat}{b:List UInt8} (hb:f.data[k]? =some b) (h:(8:Int)<(b.length:Int)):yS f=true:=List.any_eq_true.2 ⟨b,List.mem_of_getElem? hb,decide_eq_true h⟩
theorem gK {f:DFs} (h:∀j b,j<f.data.length→f.data[j]? =some b→¬(8:Int)<(b.length:Int)):yS f=false:=by
  unfold yS
  rw [List.any_eq_false]
  intro b hb
  obtain⟨j,hj⟩:=List.mem_iff_getElem?.1 hb
  rw [decide_eq_false (h j b (List.getElem?_eq_some_iff.1 hj).1 hj)]
  decide
theorem qH {f:DFs}{k q:Nat}{x:aF}{e:bO} (hx:f.inodes[k]? =some x) (he:x.ents[q]? =some e) (h:oS f.inodes e):aCp f=true:=
  List.any_eq_true.2 ⟨x,List.mem_of_getElem? hx,List.any_eq_true.2 ⟨e,List.mem_of_getElem? he,decide_eq_true h⟩⟩
abbrev rA (xs:List aF) (x:aF):Prop:=∀(j:Nat) (e:bO),x.ents[j]? =some e→¬oS xs e
theorem jM {f:DFs} (h:∀j x,j<f.inodes.length→f.inodes[j]? =some x→rA f.inodes x):aCp f=false:=by
  unfold aCp
  rw [List.any_eq_false]
  intro x hx
  obtain⟨j,hj⟩:=List.mem_iff_getElem?.1 hx
  have h1:=h j x (List.getElem?_eq_some_iff.1 hj).1 hj
  rw [Bool.not_eq_true,List.any_eq_false]
  intro e he
  obtain⟨i,hi⟩:=List.mem_iff_getElem?.1 he
  rw [decide_eq_false (h1 i e hi)]
  decide
theorem sR {f:DFs} (h:aX f=0):fN f=0∧yS f=false∧(fU f.inodes).Nodup∧aCp f=false:=by
  unfold aX at h
  split at h
  · split at h
    · exact absurd h (by decide)
    · split at h
      · split at h
        · exact absurd h (by decide)
        · rename_i h1 h2 h3 h4;exact⟨h1,by simpa using h2,h3,by simpa using h4⟩
      · exact absurd h (by decide)
  · contradiction
theorem hU {f:DFs} (h:aX f=0):aZ f.inodes=0:=(vJ (sR h).1).1
theorem aI9 {f:DFs} (h:aCp f=false) {k:Nat}{x:aF} (hx:f.inodes[k]? =some x):rA f.inodes x:=fun j e he hb=>by
  have:=qH hx he hb
  rw [h] at this
  cases this
theorem aBh {xs:List aF}{e:bO} (h:¬oS xs e):e.ino<(xs.length:Int):=by
  apply Classical.byContradiction
  intro hn
  exact h (oX (by omega))
def fK (f:DFs) (a:Int):Int:=if aX f=0 then if bQ f.inodes.length a then if aY f.inodes a=2 then 0 else 9 else 3 else aX f
theorem lN {f:DFs}{a:Int} (h:¬aX f=0):fK f a=aX f:=if_neg h
theorem lM {f:DFs}{a:Int} (h:aX f=0) (h2:¬bQ f.inodes.length a):fK f a=3:=by unfold fK;rw [if_pos h,if_neg h2]
theorem lL {f:DFs}{a:Int} (h:aX f=0) (h2:bQ f.inodes.length a) (h3:¬aY f.inodes a=2):fK f a=9:=by unfold fK;rw [if_pos h,if_pos h2,if_neg h3]
theorem kN {f:DFs}{a:Int} (h:aX f=0) (h2:bQ f.inodes.length a) (h3:aY f.inodes a=2):fK f a=0:=by unfold fK;rw [if_pos h,if_pos h2,if_pos h3]
theorem aIp {f:DFs}{a:Int} (h:fK f a=0):aX f=0∧bQ f.inodes.length a∧aY f.inodes a=2:=by
  unfold fK at h
  split at h
  · split at h
    · split at h
      · rename_i h1 h2 h3;exact⟨h1,h2,h3⟩
      · exact absurd h (by decide)
    · exact absurd h (by decide)
  · contradiction
def jU (f:DFs) (a:Int) (s:ByteArray):Int:=if fK f a=0 then aV s else fK f a
theorem xR {f:DFs}{a:Int}{s:ByteArray} (h:¬fK f a=0):jU f a s=fK f a:=if_neg h
theorem sT {f:DFs}{a:Int}{s:ByteArray} (h:fK f a=0):jU f a s=aV s:=if_pos h
theorem aLj {f:DFs}{a:Int}{s:ByteArray} (h:jU f a s=0):fK f a=0:=by
  unfold jU at h
  split at h
  · assumption
  · contradiction
def aG (xs:List aF) (a:Int):List bO:=match xs[a.toNat]? with | some x=>x.ents | none=> []
theorem cP {xs:List aF}{a:Int}{j:Nat}{x:aF} (hx:xs[j]? =some x) (h:a=(j:Int)):aG xs a=x.ents:=by
  subst h
  unfold aG
  rw [Int.toNat_natCast,hx]
abbrev dE (s:ByteArray):bO→Bool:=fun e=>decide (e.name=s)
def fX (es:List bO) (s:ByteArray):Int:=match es.find? (dE s) with | some e=>e.ino | none=> -1
theorem vE {es:List bO}{s:ByteArray}{k:Nat}{e:bO} (he:es[k]? =some e) (h:e.name=s) (ha:∀j x,j<k→es[j]? =some x→¬x.name=s):fX es s=e.ino:=by
  have:es.find? (dE s)=some e:=by
    obtain⟨hk,rfl⟩:=List.getElem?_eq_some_iff.1 he
    refine List.find?_eq_some_iff_getElem.2 ⟨decide_eq_true h,k,hk,rfl,fun j hj=> ?_⟩
    have:=ha j _ hj (List.getElem?_eq_getElem (by omega))
    simpa using this
  unfold fX
  rw [this]
theorem aIo {es:List bO}{s:ByteArray}{k:Nat} (hk:es.length≤k) (ha:∀j x,j<k→es[j]? =some x→¬x.name=s):fX es s= -1:=by
  have:es.find? (dE s)=none:=List.find?_eq_none.2 fun x hx=>by
    obtain⟨j,hj⟩:=List.mem_iff_getElem?.1 hx
    have:=ha j x (by have:=(List.getElem?_eq_some_iff.1 hj).1;omega) hj
    simpa using this
  unfold fX
  rw [this]
theorem gB {α:Type} (p:α→Bool) (xs:List α):eX p xs<(xs.length:Int)∧ -1≤eX p xs:=by
  unfold eX
  cases h:xs.findIdx? p with
  | none=>simp only;omega
  | some i=>
    have:=(List.findIdx?_eq_some_iff_getElem.1 h).1
    simp only;omega
theorem uR {es:List bO}{s:ByteArray}{x:bO} (h:¬eX (dE s) es<0) (hx:es[Int.toNat (eX (dE s) es)]? =some x):fX es s=x.ino:=by
  unfold eX at h hx
  cases hf:es.findIdx? (dE s) with
  | none=>rw [hf] at h;exact absurd (by decide:(-1:Int)<0) h
  | some i=>
    rw [hf] at hx
    simp only [Int.toNat_natCast] at hx
    obtain⟨hi,hp,hn⟩:=List.findIdx?_eq_some_iff_getElem.1 hf
    obtain⟨h1,rfl⟩:=List.getElem?_eq_some_iff.1 hx
    refine vE hx (of_decide_eq_true hp) fun j y hj hy=> ?_
    obtain⟨h2,rfl⟩:=List.getElem?_eq_some_iff.1 hy
    have:=hn j hj
    simpa using this
theorem sB {es:List bO}{s:ByteArray} (h:eX (dE s) es<0):fX es s= -1:=by
  unfold eX at h
  cases hf:es.findIdx? (dE s) with
  | some i=>rw [hf] at h;simp only at h;omega
  | none=>
    have:es.find? (dE s)=none:=List.find?_eq_none.2 fun x hx=>by
      have:=List.findIdx?_eq_none_iff.1 hf x hx
      simpa using this
    unfold fX
    rw [this]
def oZ (f:DFs) (a:Int) (s:ByteArray):aFz:=if jU f a s=0 then if fX (aG f.inodes a) s<0 then⟨4,0⟩else⟨0,fX (aG f.inodes a) s⟩else⟨jU f a s,0⟩
theorem aAs {f:DFs}{a:Int}{s:ByteArray} (h:¬jU f a s=0):oZ f a s=⟨jU f a s,0⟩:=if_neg h
theorem aA4 {f:DFs}{a:Int}{s:ByteArray} (h:jU f a s=0) (h2:fX (aG f.inodes a) s<0):oZ f a s=⟨4,0⟩:=by unfold oZ;rw [if_pos h,if_pos h2]
theorem wJ {f:DFs}{a:Int}{s:ByteArray} (h:jU f a s=0) (h2:¬fX (aG f.inodes a) s<0):oZ f a s=⟨0,fX (aG f.inodes a) s⟩:=by unfold oZ;rw [if_pos h,if_neg h2]
def mQ (es:List bO) (k:Nat):List ByteArray:=(es.take k).map (·.name)
theorem aGm {es:List bO}{k:Nat}{e:bO} (h:es[k]? =some e):mQ es k++ [e.name]=mQ es (k+1):=by
  unfold mQ
  rw [←kO h,List.map_append]
  rfl
theorem aCq {es:List bO}{k:Nat}:(mQ es k).length≤es.length:=by
  unfold mQ;rw [List.length_map,List.length_take];omega
def tX (es:List bO):List ByteArray:=es.map (·.name)
theorem aB6 {es:List bO}{k:Nat} (h:es.length≤k):mQ es k=tX es:=by unfold mQ tX;rw [List.take_of_length_le h]
def uZ (f:DFs) (a:Int):aDz:=if fK f a=0 then⟨0,tX (aG f.inodes a)⟩else⟨fK f a,[]⟩
theorem aBu {f:DFs}{a:Int} (h:¬fK f a=0):uZ f a=⟨fK f a,[]⟩:=if_neg h
theorem aCu {f:DFs}{a:Int} (h:fK f a=0):uZ f a=⟨0,tX (aG f.inodes a)⟩:=if_pos h
def aCe (f:DFs) (a:Int):Prop:=fK f a=0∧(aG f.inodes a).length=0
instance (f:DFs) (a:Int):Decidable (aCe f a):=by unfold aCe;infer_instance
end Go.Proofs.YtmejbfmhaoilmaaGreatDoor
/- What is proved: elements taken out of a slice of one's own, in place. No condition. -/
namespace Go.Proofs.YtmejbfmhaoilmaaGreatDoor
open Go Go.RowKit
set_option linter.unusedVariables false
set_option linter.unusedSimpArgs false
theorem cI.sublist {l l':List Asn} (h:l'.Sublist l):∀{w:World}{S:Bs},cI l w S→cI l' w S:=by
  induction h with
  | slnil=>exact fun h=>h
  | cons c _ ih=>exact fun h=>ih h.drop
  | cons_cons c _ ih=>
    intro w S ⟨A,B,h1,h2,a,b,d⟩
    exact⟨A,B,h1,ih h2,a,b,d⟩
theorem aBa {css:List (List Value)}{n:Nat} (hl:∀c,c∈css→c.length=n) (i:Nat):(css.take i).flatten=css.flatten.take (i * n):=by
  induction css generalizing i with
  | nil=>simp
  | cons d css ih=>
    have hd:=hl d List.mem_cons_self
    cases i with
    | zero=>simp
    | succ i=>
      simp only [List.take_succ_cons,List.flatten_cons]
      rw [ih (fun c hc=>hl c (List.mem_cons_of_mem _ hc)) i,List.take_append,List.take_of_length_le (l:=d) (by rw [hd,Nat.succ_mul];omega),hd,Nat.succ_mul,Nat.add_sub_cancel]
section
variable {P:Program}{T:eR}{Wd:World→Prop}{o:Oper}{N:Nat}{w0:World}{S0:Bs}{l l' lk:List Asn}
end
end Go.Proofs.YtmejbfmhaoilmaaGreatDoor
/- What is proved: the library's contracts of Sort and Compact over rows of numbers, told of one's own slice. No condition. -/
namespace Go.Proofs.YtmejbfmhaoilmaaGreatDoor
open Go Go.RowKit
open Go.Sort (putRow grow putCells mapBlock)
set_option linter.unusedVariables false
set_option linter.unusedSimpArgs false
theorem xC {k : IntKind} {w : World} {S : Bs} : ∀ {zs : List Int} {css : List (List Value)}, css.length = zs.length → cI (jQ (gS k) zs css) w S → css = zs.map (fun z => [Value.int k z])
  | [],[],_,_=>rfl
  | z :: zs,c :: css,hl,h=>by
    have h1:(gS k).own w S z c:=h.head (c:=aH (gS k) z c)
    rw [xC (by simpa using hl) (h.drop (c:=aH (gS k) z c)),List.map_cons,h1.1]
  | [],_ :: _,hl,_=>by simp at hl
  | _ :: _,[],hl,_=>by simp at hl
theorem aCf {k : IntKind} {w : World} {S : Bs} : ∀ zs : List Int, cI (jQ (gS k) zs (zs.map (fun z => [Value.int k z]))) w S
  | []=>trivial
  | z :: zs=>⟨fun _=>False,S,⟨rfl,trivial⟩,aCf zs,fun _ h=>h.elim,fun _ h=>h,fun _ h=>h.elim⟩
theorem aG2 {k:IntKind} (zs:List Int):(zs.map (fun z=> [Value.int k z])).flatten=zs.map (Value.int k):=by
  induction zs with
  | nil=>rfl
  | cons z zs ih=>simp [ih]
theorem own_holds {e by_:Nat}{w:World}{S:Bs}{zs:List Int}{v:Value} (h:(bM e by_ (gS .i64)).own w S zs [v]) (hp:0<zs.length):
    ∃g c,v= .slice (some ⟨g,0,none⟩) zs.length c∧zs.length≤c∧g<w.heap.size∧Go.Sort.Holds (Value.int .i64) w g 0 zs.toArray∧zs.length * by_≤140737488355328∧c≤9223372036854775807∧
      ∀(zs':List Int) (n:Nat) (os:Array Obj),zs'.length=zs.length→(bM e by_ (gS .i64)).own (grow (putRow (Value.int .i64) (Sort.ahead w n) g 0 zs'.toArray) os) S zs' [v]∧Fr w S (grow (putRow (Value.int .i64) (Sort.ahead w n) g 0 zs'.toArray) os):=by
  rcases h with ⟨A,h1,rfl⟩ |⟨g,c,css,h1,h2,h3,h4,h5,h6⟩
  · exact absurd hp (by simp)
  obtain rfl:v= .slice (some ⟨g,0,none⟩) zs.length c:=by simpa using h1
  obtain⟨S1,S2,⟨hg,cur,k1,k2,k3,k4⟩,hseq,a1,a2,a3⟩:=h6
  have hcss:=xC h5 hseq
  subst hcss
  rw [aG2] at k3 k4
  simp only [List.length_map] at k3 k4
  have hlt:g<w.heap.size:=(Array.getElem?_eq_some_iff.1 k1).1
  have hcell:∀j,j<zs.length→cur[j]? =some (.int .i64 (zs[j]!)):=fun j hj=>by
    have:(cur.toList.take zs.length)[j]? =(zs.map (Value.int .i64))[j]? :=by rw [k4]
    rw [List.getElem?_take,if_pos hj,List.getElem?_map,List.getElem?_eq_getElem hj] at this
    rw [Array.getElem?_toList] at this
    rw [this,getElem!_pos zs j hj]
    rfl
  refine⟨g,c,rfl,h2,hlt,fun j hj=>⟨?_,?_⟩,h4,h3,fun zs' n os hl=> ?_⟩
  · have hj' : j < zs.length := by simpa using hj
    rw [cell_of_row w g (0+j) cur e (0,0) k1,Nat.zero_add,hcell j hj']
    simp [getElem!_pos zs j hj',getElem!_pos zs.toArray j hj]
  · simp [World.frozen?,k1]
  · have hb:(grow (putRow (Value.int .i64) (Sort.ahead w n) g 0 zs'.toArray) os).heap[g]? =some (.cells (putCells (Value.int .i64) 0 zs'.toArray cur) e (0,0)):=by
      simp only [grow,putRow,mapBlock,Sort.ahead]
      rw [Array.getElem?_append_left (by simpa using hlt),Array.getElem?_modify,if_pos rfl,k1]
      rfl
    have ho:∀b,b<w.heap.size→b≠g→(grow (putRow (Value.int .i64) (Sort.ahead w n) g 0 zs'.toArray) os).heap[b]? =w.heap[b]? :=fun b hb hne=>by
      simp only [grow,putRow,mapBlock,Sort.ahead]
      rw [Array.getElem?_append_left (by simpa using hb),Array.getElem?_modify,if_neg (fun e=>hne e.symm)]
    have hsz:w.heap.size≤(grow (putRow (Value.int .i64) (Sort.ahead w n) g 0 zs'.toArray) os).heap.size:=by simp [grow,putRow,mapBlock,Sort.ahead]
    have hfr:Fr w S (grow (putRow (Value.int .i64) (Sort.ahead w n) g 0 zs'.toArray) os):=⟨rfl,rfl,rfl,hsz,fun b hb hn=>ho b hb (fun e=>hn (e ▸ a1 g hg))⟩
    refine⟨.inr ⟨g,c,zs'.map (fun z=> [Value.int .i64 z]),by rw [hl],by omega,h3,by rw [hl];exact h4,by simp,?_⟩,hfr⟩
    refine⟨S1,fun _=>False,⟨hg,_,hb,?_,?_,?_⟩,aCf zs',a1,fun _ h=>h.elim,fun _ _ h=>h⟩
    · simpa [putCells] using k2
    · rw [aG2]
      simp only [putCells,Array.size_mapIdx,List.length_map]
      omega
    · rw [aG2]
      apply List.ext_getElem?
      intro j
      rw [List.getElem?_take,List.length_map]
      split
      · rename_i hj
        have hjc:j<cur.size:=by omega
        rw [Array.getElem?_toList,putCells,Array.getElem?_mapIdx,Array.getElem?_eq_getElem hjc,Option.map_some,if_pos ⟨by omega,by simpa using hj⟩,List.getElem?_map,List.getElem?_eq_getElem hj,Option.map_some]
        simp [getElem!_pos zs'.toArray j (by simpa using hj)]
      · rw [List.getElem?_eq_none (by rw [List.length_map];omega)]
theorem aCk {e by_:Nat}{w:World}{S:Bs}{zs:List Int}{v:Value} (h:(bM e by_ (gS .i64)).own w S zs [v]) (hp:¬0<zs.length):zs= []∧∃A c,v= .slice A 0 c:=by
  have h0:zs= []:=List.length_eq_zero_iff.1 (by omega)
  subst h0
  obtain⟨A,c,h1,_⟩:=xK h
  exact⟨rfl,A,c,by simpa using h1⟩
theorem aG8 {P : Program} {f : FuncId} {e by_ : Nat} {w0 : World} {S0 : Bs} {zs : List Int} {v0 : Value}
    (h1:∀(blk off cap:Nat) (zs:List Int) (w:World),Go.Sort.Holds (Value.int .i64) w blk off zs.toArray→blk<w.heap.size→zs.length<4611686018427387904→Calls P f #[.slice (some ⟨blk,off,none⟩) zs.length cap] w fun e w'=>e= .returned (.tuple #[])∧∃n os,w'=grow (putRow (Value.int .i64) (Sort.ahead w n) blk off (zs.mergeSort fun x y=>decide (x≤y)).toArray) os)
    (h2:∀(p:Option Addr) (cap:Nat) (w:World),Calls P f #[.slice p 0 cap] w fun e w'=>e= .returned (.tuple #[])∧w'=w) (h8:8≤by_)
    (hs:cI [aH (bM e by_ (gS .i64)) zs [v0]] w0 S0):Calls P f #[v0] w0 (aI w0 S0 (fun r l=>r= .tuple #[]∧l= [aH (bM e by_ (gS .i64)) (kW zs) [v0]])):=by
  have ho:(bM e by_ (gS .i64)).own w0 S0 zs [v0]:=hs.head (c:=aH (bM e by_ (gS .i64)) zs [v0])
  by_cases hp:0<zs.length
  · obtain ⟨g, c, rfl, g1, g2, g3, g4, g5, g6⟩ := own_holds ho hp
    have hb:zs.length * 8≤zs.length * by_:=Nat.mul_le_mul_left _ h8
    refine(h1 g 0 c zs w0 g3 g2 (by omega)).mono fun e' w' ⟨he,n,os,hw⟩=> ?_
    obtain⟨k1,k2⟩:=g6 (kW zs) n os (zN zs)
    have hw':w'=grow (putRow (Value.int .i64) (Sort.ahead w0 n) g 0 (kW zs).toArray) os:=hw
    subst hw'
    exact⟨_,_,he,⟨rfl,rfl⟩,S0,cI.one (c:=aH (bM e by_ (gS .i64)) (kW zs) _) k1,fun b hb=> .inl hb,k2⟩
  · obtain ⟨rfl, A, c, rfl⟩ := aCk ho hp
    refine(h2 A c w0).mono fun e' w' ⟨he,hw⟩=> ?_
    subst hw
    have e0:kW []= []:=by simp [kW]
    exact⟨_,_,he,⟨rfl,rfl⟩,S0,by rw [e0];exact hs,fun b hb=> .inl hb,Fr.refl _ _⟩
theorem aHh (w:World):grow w #[]=w:=by cases w;simp [grow]
theorem aBw {P : Program} {f : FuncId} {e by_ : Nat} {w0 : World} {S0 : Bs} {zs : List Int} {v0 : Value}
    (h1:∀(blk off cap:Nat) (zs:List Int) (w:World),Go.Sort.Holds (Value.int .i64) w blk off zs.toArray→zs.length≤9223372036854775807→zs.length≤cap→Calls P f #[.slice (some ⟨blk,off,none⟩) zs.length cap] w fun e w'=>e= .returned (.slice (some ⟨blk,off,none⟩) (Lib.compact zs).length cap)∧∃q,w'=putRow (Value.int .i64) (Sort.ahead w q) blk off (Lib.compact zs++List.replicate (zs.length - (Lib.compact zs).length) 0).toArray)
    (h2:∀(a:Option Addr) (cap:Nat) (w:World),Calls P f #[.slice a 0 cap] w fun e w'=>e= .returned (.slice a 0 cap)∧w'=w)
    (hs:cI [aH (bM e by_ (gS .i64)) zs [v0]] w0 S0):Calls P f #[v0] w0 (aI w0 S0 (fun r l=>∃z:Option Addr×Nat,r= .slice z.1 (Lib.compact zs).length z.2∧l= [])):=by
  have ho:(bM e by_ (gS .i64)).own w0 S0 zs [v0]:=hs.head (c:=aH (bM e by_ (gS .i64)) zs [v0])
  by_cases hp:0<zs.length
  · obtain ⟨g, c, rfl, g1, g2, g3, g4, g5, g6⟩ := own_holds ho hp
    refine(h1 g 0 c zs w0 g3 (by omega) g1).mono fun e' w' ⟨he,q,hw⟩=> ?_
    obtain⟨k1,k2⟩:=g6 (Lib.compact zs++List.replicate (zs.length - (Lib.compact zs).length) 0) q #[] (by have:=aBz zs;simp;omega)
    have hw':w'=grow (putRow (Value.int .i64) (Sort.ahead w0 q) g 0 (Lib.compact zs++List.replicate (zs.length - (Lib.compact zs).length) 0).toArray) #[]:=by rw [hw,aHh]
    subst hw'
    exact⟨_,_,he,⟨(_,_),rfl,rfl⟩,S0,trivial,fun b hb=> .inl hb,k2⟩
  · obtain ⟨rfl, A, c, rfl⟩ := aCk ho hp
    refine(h2 A c w0).mono fun e' w' ⟨he,hw⟩=> ?_
    subst hw
    have e0:(Lib.compact ([]:List Int)).length=0:=rfl
    exact⟨_,_,he,⟨(A,c),by rw [e0],rfl⟩,S0,trivial,fun b hb=> .inl hb,Fr.refl _ _⟩
theorem Y.ak {N:Nat}{w0:World}{S0:Bs}{F:Act→World→Prop}{T:eR}{l l':List Asn}{c c':Asn} (h:fG l c l') (e:c=c') (k:Y N w0 S0 F T (c' :: l')):Y N w0 S0 F T l:=by subst e;exact Y.take h k
theorem xU {α:Type}{K:Kd α}{e by_ n c:Nat}{xs:List α}{A:Option Addr} (hn:n≤xs.length) (w:World) (S:Bs) (h:cI [aH (bM e by_ K) xs [.slice A xs.length c]] w S):(aH (bM e by_ K) (xs.take n) [.slice A n c]).p w S:=by
  have hl:(xs.take n).length=n:=by rw [List.length_take];omega
  rcases(show(bM e by_ K).own w S xs [.slice A xs.length c] from h.head (c:=aH (bM e by_ K) xs _)) with ⟨A',h1,rfl⟩ |⟨g,c',css,h1,h2,h3,h4,h5,h6⟩
  · obtain rfl : n = 0 := by simpa using hn
    injection h1 with h1 _
    injection h1 with h1 h2 h3
    subst h3
    exact .inl ⟨A,rfl,rfl⟩
  · injection h1 with h1 _
    injection h1 with h1 _ h3'
    subst h1;subst h3'
    obtain⟨S1,S2,⟨hg,cur,k1,k2,k3,k4⟩,hseq,a1,a2,a3⟩:=h6
    have hlc:=pV h5 hseq
    have hft:=aBa hlc n
    refine .inr ⟨g,c,css.take n,by rw [hl],by omega,h3,?_,by rw [List.length_take,List.length_take,h5],?_⟩
    · rw [hl];exact Nat.le_trans (Nat.mul_le_mul_right _ hn) h4
    · refine ⟨S1, S2, ⟨hg, cur, k1, k2, ?_, ?_⟩, ?_, a1, a2, a3⟩
      · rw [hft,List.length_take];omega
      · rw [hft, List.length_take]
        have:cur.toList.take (min (n * K.sz) css.flatten.length)=(cur.toList.take css.flatten.length).take (n * K.sz):=by rw [List.take_take]
        rw [this,k4]
      · have : jQ K (xs.take n) (css.take n) = (jQ K xs css).take n := by simp [jQ, List.take_zipWith]
        rw [this]
        exact cI.sublist (List.take_sublist _ _) hseq
theorem pG {α:Type}{K:Kd α}{e by_ n c:Nat}{xs:List α}{A:Option Addr} (hn:n≤xs.length) (w:World) (S:Bs) (h:cI [aH (bM e by_ K) xs [.slice A xs.length c]] w S):(aH (bM e by_ K) (xs.take n) [.slice A (xs.take n).length c]).p w S:=by
  have:=xU hn w S h
  rwa [show(xs.take n).length=n by rw [List.length_take];omega]
theorem WS.r {w0:World}{S0:Bs}{l l':List Asn}{α:Type}{K:Kd α}{e by_:Nat}{xs:List α}{A:Option Addr}{n c:Nat} (ht:fG l (aH (bM e by_ K) xs [.slice A n c]) l'):∀w,WS w0 S0 l w→n=xs.length∧n≤c∧c≤9223372036854775807∧n * by_≤140737488355328:=fun w hw=>by
  obtain⟨A',c',h,h1,h2,h3⟩:=WS.a ht w hw
  injection h with _ h4 h5
  subst h4;subst h5
  exact⟨rfl,h1,h2,h3⟩
section
variable {P:Program}{T:eR}{Wd:World→Prop}{o:Oper}
theorem jJ {x:Operand}{t e:TypeId}{sz b n c:Nat}{z:Operand}{k:IntKind}{A:Option Addr} (ho:o.op= .slice t x none (some z) none) (ht:P.underlying t=some (.slice e)) (he:(P.info? e).map (·.size)=some sz) (hx:Val T x (.slice A n c)) (hz:Val T z (.int k (b:Int))) (h:b≤c):eO P o T Wd (.slice A b c):=by
  have:=aD9 (a:=0) (b:=b) (Wd:=Wd) ho ht he hx (.inl ⟨rfl,rfl⟩) (.inr ⟨_,_,rfl,hz⟩) (by omega) h
  have e1:(if c=0 then A else A.map (·.add (0 * sz)))=A:=by
    split
    · rfl
    · cases A with
      | none=>rfl
      | some a=>simp [Addr.add]
  rw [e1] at this
  simpa using this
end
end Go.Proofs.YtmejbfmhaoilmaaGreatDoor
/- What is proved: what can be reached in a tree, by a stack and by rounds, in plain Lean. No condition. -/
namespace Go.Proofs.YtmejbfmhaoilmaaGreatDoor
open Go Go.RowKit
set_option linter.unusedVariables false
set_option linter.unusedSimpArgs false
inductive pA (xs : List aF) (r : Nat) : Nat → Prop
  | refl:pA xs r r
  | step {i q:Nat}{x:aF}{e:bO}:pA xs r i→xs[i]? =some x→x.ents[q]? =some e→pA xs r e.ino.toNat
noncomputable def aD3 (xs:List aF) (r:Nat):Int→Bool:=fun a=> @decide (pA xs r a.toNat) (Classical.propDecidable _)
noncomputable def lE (xs:List aF) (r:Nat):List Int:=cV (aD3 xs r) xs.length
theorem xD {xs:List aF}{r:Nat}{a:Int}:aD3 xs r a=true↔pA xs r a.toNat:=by
  unfold aD3
  exact @decide_eq_true_iff _ (Classical.propDecidable _)
abbrev On (b:List Bool) (i:Nat):Prop:=b[i]? =some true
theorem nU {b:List Bool}{j i:Nat} (hj:j<b.length):On (b.set j true) i↔(i=j∨On b i):=by
  unfold On
  rw [List.getElem?_set]
  by_cases h:j=i
  · subst h;simp [hj]
  · rw [if_neg h]
    constructor
    · exact .inr
    · rintro (rfl | h2)
      · exact absurd rfl h
      · exact h2
theorem vD {xs:List aF}{r:Nat}{S:Nat→Prop} (h0:S r) (hc:∀(i q:Nat) x e,S i→xs[i]? =some x→x.ents[q]? =some e→S e.ino.toNat):∀i,pA xs r i→S i:=fun i h=>by
  induction h with
  | refl=>exact h0
  | step _ hx he ih=>exact hc _ _ _ _ ih hx he
structure Dfs (xs : List aF) (r : Nat) (b : List Bool) (op : List Int) : Prop where
  len:b.length=xs.length
  snd:∀i,On b i→pA xs r i
  opn:∀a,a∈op→(0≤a∧a<(xs.length:Int))∧pA xs r a.toNat
  top:On b r∨(r:Int)∈op
  cls:∀(i q:Nat) x e,On b i→xs[i]? =some x→x.ents[q]? =some e→On b e.ino.toNat∨e.ino∈op
theorem aGs {xs : List aF} {r : Nat} (hr : r < xs.length) : Dfs xs r (List.replicate xs.length false) [(r : Int)] where
  len:=by simp
  snd i h:=by
    exfalso
    unfold On at h
    rw [List.getElem?_replicate] at h
    split at h <;> simp at h
  opn a ha:=by
    obtain rfl:=List.mem_singleton.1 ha
    exact⟨by omega,by rw [Int.toNat_natCast];exact .refl⟩
  top:= .inr (List.mem_singleton.2 rfl)
  cls i q x e h:=by
    exfalso
    unfold On at h
    rw [List.getElem?_replicate] at h
    split at h <;> simp at h
theorem zS {α:Type}{op:List α}{a:α} (ha:op[op.length - 1]? =some a):op=op.take (op.length - 1)++ [a]:=by
  have:=kO ha
  rw [this,List.take_of_length_le]
  have:=(List.getElem?_eq_some_iff.1 ha).1
  omega
theorem aGy {xs:List aF}{r:Nat}{b:List Bool}{op:List Int}{a:Int} (h:Dfs xs r b op) (ha:op[op.length - 1]? =some a) (hs:On b a.toNat):Dfs xs r b (op.take (op.length - 1)):=by
  have he:=zS ha
  have hm:∀c,c∈op→c=a∨c∈op.take (op.length - 1):=fun c hc=>by
    rw [he] at hc
    rcases List.mem_append.1 hc with h1 | h1
    · exact .inr h1
    · exact .inl (List.mem_singleton.1 h1)
  refine⟨h.len,h.snd,fun c hc=>h.opn c (List.mem_of_mem_take hc),?_,fun i q x e hi hx hq=> ?_⟩
  · rcases h.top with h1 | h1
    · exact .inl h1
    · rcases hm _ h1 with h2 | h2
      · exact .inl (by rw [←h2,Int.toNat_natCast] at hs;exact hs)
      · exact .inr h2
  · rcases h.cls i q x e hi hx hq with h1 | h1
    · exact .inl h1
    · rcases hm _ h1 with h2 | h2
      · exact .inl (by rw [h2];exact hs)
      · exact .inr h2
def lB (es:List bO) (k:Nat):List Int:=(es.take k).map (·.ino)
theorem aHa {op:List Int}{es:List bO}{k:Nat}{e:bO} (h:es[k]? =some e):(op++lB es k)++ [e.ino]=op++lB es (k+1):=by
  unfold lB
  rw [←kO h,List.map_append,List.append_assoc]
  rfl
theorem aIq (op:List Int) (es:List bO):op=op++lB es 0:=by simp [lB]
theorem tA {es:List bO}{k:Nat}:(lB es k).length≤es.length:=by
  unfold lB;rw [List.length_map,List.length_take];omega
theorem aJg {xs:List aF}{r:Nat}{b:List Bool}{op:List Int}{a:Int}{x:aF}{k:Nat} (hI:aZ xs=0) (hG:∀(j:Nat) x,xs[j]? =some x→rA xs x) (h:Dfs xs r b op) (ha:op[op.length - 1]? =some a) (hx:xs[a.toNat]? =some x) (hk:x.ents.length≤k):
    Dfs xs r (b.set a.toNat true) (op.take (op.length - 1)++lB x.ents k):=by
  have he:=zS ha
  have hmem:a∈op:=by rw [he];exact List.mem_append.2 (.inr (List.mem_singleton.2 rfl))
  have hop:=h.opn a hmem
  have hlt:a.toNat<b.length:=by rw [h.len];omega
  have hm:∀c,c∈op→c=a∨c∈op.take (op.length - 1):=fun c hc=>by
    rw [he] at hc
    rcases List.mem_append.1 hc with h1 | h1
    · exact .inr h1
    · exact .inl (List.mem_singleton.1 h1)
  have hin:lB x.ents k=x.ents.map (·.ino):=by unfold lB;rw [List.take_of_length_le hk]
  refine⟨by rw [List.length_set];exact h.len,fun i hi=> ?_,fun c hc=> ?_,?_,fun i q y e hi hy hq=> ?_⟩
  · rcases (nU hlt).1 hi with rfl | h1
    · exact hop.2
    · exact h.snd i h1
  · rcases List.mem_append.1 hc with h1 | h1
    · exact h.opn c (List.mem_of_mem_take h1)
    · rw [hin] at h1
      obtain⟨e,hem,rfl⟩:=List.mem_map.1 h1
      obtain⟨q,hq⟩:=List.mem_iff_getElem?.1 hem
      have h2:=aBh (hG _ x hx q e hq)
      have h3:=oN (dM hI x (List.mem_of_getElem? hx)) q e hq
      exact⟨⟨h3.2.1,h2⟩,.step hop.2 hx hq⟩
  · rcases h.top with h1 | h1
    · exact .inl ((nU hlt).2 (.inr h1))
    · rcases hm _ h1 with h2 | h2
      · exact .inl ((nU hlt).2 (.inl (by rw [←h2,Int.toNat_natCast])))
      · exact .inr (List.mem_append.2 (.inl h2))
  · rcases (nU hlt).1 hi with rfl | h1
    · rw [hx] at hy
      obtain rfl:=Option.some.inj hy
      exact .inr (List.mem_append.2 (.inr (by rw [hin];exact List.mem_map.2 ⟨e,List.mem_of_getElem? hq,rfl⟩)))
    · rcases h.cls i q y e h1 hy hq with h2 | h2
      · exact .inl ((nU hlt).2 (.inr h2))
      · rcases hm _ h2 with h3 | h3
        · exact .inl ((nU hlt).2 (.inl (by rw [h3])))
        · exact .inr (List.mem_append.2 (.inl h3))
theorem aJl {xs:List aF}{r:Nat}{b:List Bool}{op:List Int} (h:Dfs xs r b op) (h0:op.length=0):∀i,On b i↔pA xs r i:=by
  obtain rfl:=List.length_eq_zero_iff.1 h0
  have hr:On b r:=h.top.elim id (fun h=>by cases h)
  exact fun i=>⟨h.snd i,vD hr (fun i q x e hi hx hq=>(h.cls i q x e hi hx hq).elim id (fun h=>by cases h)) i⟩
def aDx (b:List Bool):Nat:=b.count false
theorem xA : ∀ {b : List Bool} {j : Nat}, b[j]? = some false → aDx (b.set j true) + 1 = aDx b
  | [],j,h=>by simp at h
  | c :: b,0,h=>by
    simp at h
    subst h
    simp [aDx]
  | c :: b,j+1,h=>by
    have ih:=xA (b:=b) (j:=j) (by simpa using h)
    unfold aDx at ih ⊢
    simp only [List.set_cons_succ,List.count_cons]
    omega
theorem aH3 {b:List Bool}{j:Nat} (hj:j<b.length) (h:¬On b j):b[j]? =some false:=by
  unfold On at h
  rw [List.getElem?_eq_getElem hj] at h ⊢
  cases hb:b[j]
  · rfl
  · exact absurd (by rw [hb]) h
abbrev onP (b:List Bool):Int→Bool:=fun a=>b.getD a.toNat false
theorem aA6 {b:List Bool}{k:Nat}{c:Bool} (h:b[k]? =some c):onP b (k:Int)=c:=by
  unfold onP
  rw [Int.toNat_natCast,List.getD_eq_getElem?_getD,h]
  rfl
theorem wU {xs:List aF}{r:Nat}{b:List Bool}{k:Nat} (h:∀i,On b i↔pA xs r i) (hl:b.length=xs.length) (hk:k=b.length):cV (onP b) k=lE xs r:=by
  unfold lE
  rw [hk,hl]
  refine xZ fun a h1 h2=> ?_
  rw [Bool.eq_iff_iff,xD,←h]
  unfold onP On
  rw [List.getD_eq_getElem?_getD]
  cases hb:b[a.toNat]? with
  | none=>simp
  | some c=>simp
abbrev LeB (b c:List Bool):Prop:=∀i,On b i→On c i
def onN (b:List Bool):Nat:=b.count true
theorem aJf (b:List Bool):onN b≤b.length:=List.count_le_length
theorem aDb : ∀ {b c : List Bool}, b.length = c.length → LeB b c → b = c ∨ onN b < onN c
  | [],[],_,_=> .inl rfl
  | x :: b,y :: c,hl,hle=>by
    have h1:LeB b c:=fun i hi=>by have:=hle (i+1) (by simpa [On] using hi);simpa [On] using this
    have h0:x=true→y=true:=fun hx=>by have:=hle 0 (by simp [On,hx]);simpa [On] using this
    rcases aDb (b:=b) (c:=c) (by simpa using hl) h1 with rfl | h2
    · cases x <;> cases y <;> simp [onN] at h0 ⊢
    · right
      unfold onN at h2 ⊢
      simp only [List.count_cons]
      cases x <;> cases y <;> simp at h0 ⊢ <;> omega
  | [],_ :: _,hl,_=>by simp at hl
  | _ :: _,[],hl,_=>by simp at hl
abbrev Clo (xs:List aF) (b:List Bool):Prop:=∀(i q:Nat) x e,On b i→xs[i]? =some x→x.ents[q]? =some e→On b e.ino.toNat
structure Rnd (xs : List aF) (k : Nat) (b : List Bool) : Prop where
  len:b.length=xs.length
  snd:∀i,On b i→pA xs 0 i
  top:On b 0
  prog:Clo xs b∨k+1≤onN b
structure Mid (xs : List aF) (b0 : List Bool) (i : Nat) (b : List Bool) : Prop where
  len:b.length=xs.length
  snd:∀i,On b i→pA xs 0 i
  le:LeB b0 b
  don:∀(j q:Nat) x e,j<i→On b0 j→xs[j]? =some x→x.ents[q]? =some e→On b e.ino.toNat
theorem aHe {xs:List aF}{k:Nat}{b:List Bool} (h:Rnd xs k b):Mid xs b 0 b:=⟨h.len,h.snd,fun _ h=>h,fun j _ _ _ hj=>absurd hj (Nat.not_lt_zero j)⟩
theorem aG3 {xs:List aF}{k i:Nat}{b0 b:List Bool} (h0:Rnd xs k b0) (h:Mid xs b0 i b) (hi:xs.length≤i):Rnd xs (k+1) b:=by
  refine⟨h.len,h.snd,h.le 0 h0.top,?_⟩
  have hd:∀(j q:Nat) x e,On b0 j→xs[j]? =some x→x.ents[q]? =some e→On b e.ino.toNat:=fun j q x e hj hx hq=>h.don j q x e (by have:=(List.getElem?_eq_some_iff.1 hx).1;omega) hj hx hq
  rcases aDb (h0.len.trans h.len.symm) h.le with rfl | hlt
  · exact .inl hd
  · rcases h0.prog with hc | hc
    · exfalso
      have:b0=b:=by
        have hle:LeB b b0:=fun j hj=>vD h0.top hc j (h.snd j hj)
        rcases aDb (h.len.trans h0.len.symm) hle with h1 | h1
        · exact h1.symm
        · omega
      subst this
      omega
    · exact .inr (by omega)
theorem aI7 {xs:List aF}{k:Nat}{b:List Bool} (h:Rnd xs k b) (hk:xs.length≤k):∀i,On b i↔pA xs 0 i:=by
  have hc:Clo xs b:=h.prog.elim id (fun h1=>by have:=aJf b;have:=h.len;omega)
  exact fun i=>⟨h.snd i,vD h.top hc i⟩
structure Inn (xs : List aF) (b0 : List Bool) (i : Nat) (x : aF) (q : Nat) (b : List Bool) : Prop where
  mid:Mid xs b0 i b
  don:∀(j:Nat) e,j<q→x.ents[j]? =some e→On b e.ino.toNat
theorem aHk {xs:List aF}{b0 b:List Bool}{i:Nat}{x:aF} (h:Mid xs b0 i b):Inn xs b0 i x 0 b:=⟨h,fun j _ hj=>absurd hj (Nat.not_lt_zero j)⟩
theorem aH1 {xs:List aF}{b0 b:List Bool}{i q:Nat}{x:aF}{e:bO} (h:Inn xs b0 i x q b) (hx:xs[i]? =some x) (he:x.ents[q]? =some e) (hb:On b i) (hl:e.ino.toNat<b.length):Inn xs b0 i x (q+1) (b.set e.ino.toNat true):=by
  have up:∀j,On b j→On (b.set e.ino.toNat true) j:=fun j hj=>(nU hl).2 (.inr hj)
  refine⟨⟨by rw [List.length_set];exact h.mid.len,fun j hj=> ?_,fun j hj=>up j (h.mid.le j hj),fun j p y d hj hb0 hy hd=>up _ (h.mid.don j p y d hj hb0 hy hd)⟩,fun j d hj hd=> ?_⟩
  · rcases (nU hl).1 hj with rfl | h1
    · exact .step (h.mid.snd i hb) hx he
    · exact h.mid.snd j h1
  · by_cases hq : j < q
    · exact up _ (h.don j d hq hd)
    · obtain rfl : j = q := by omega
      rw [he] at hd
      obtain rfl:=Option.some.inj hd
      exact(nU hl).2 (.inl rfl)
theorem aBj {xs:List aF}{b0 b:List Bool}{i q:Nat}{x:aF} (h:Inn xs b0 i x q b) (hx:xs[i]? =some x) (hq:On b i→x.ents.length≤q):Mid xs b0 (i+1) b:=by
  refine⟨h.mid.len,h.mid.snd,h.mid.le,fun j p y d hj hb0 hy hd=> ?_⟩
  by_cases hji:j<i
  · exact h.mid.don j p y d hji hb0 hy hd
  · obtain rfl : j = i := by omega
    rw [hx] at hy
    obtain rfl:=Option.some.inj hy
    have:=hq (h.mid.le _ hb0)
    exact h.don p d (by have:=(List.getElem?_eq_some_iff.1 hd).1;omega) hd
theorem aG0 {xs:List aF} (h0:0<xs.length):Rnd xs 0 ((List.replicate xs.length false).set 0 true):=by
  have hl:0<(List.replicate xs.length false).length:=by simpa using h0
  refine⟨by simp,fun i hi=> ?_,(nU hl).2 (.inl rfl),.inr ?_⟩
  · rcases (nU hl).1 hi with rfl | h1
    · exact .refl
    · exfalso
      unfold On at h1
      rw [List.getElem?_replicate] at h1
      split at h1 <;> simp at h1
  · cases hn:xs.length with
    | zero=>omega
    | succ n=>simp [List.replicate_succ,onN]
theorem uH {f:DFs} (h:aX f=0):∀(j:Nat) x,f.inodes[j]? =some x→rA f.inodes x:=fun _ _ hx=>aI9 (sR h).2.2.2 hx
theorem yH {f:DFs} (h:aX f=0):0<f.inodes.length:=(vJ (sR h).1).2.1
end Go.Proofs.YtmejbfmhaoilmaaGreatDoor
/- What is proved: a whole file system's fault, the bytes of a file, in plain Lean. No condition. -/
namespace Go.Proofs.YtmejbfmhaoilmaaGreatDoor
open Go Go.RowKit
set_option linter.unusedVariables false
set_option linter.unusedSimpArgs false
def eG (a b:Int):Int:=if a<b then a else b
theorem jH (a b:Int):eG a b≤a∧eG a b≤b∧(eG a b=a∨eG a b=b):=by unfold eG;split <;> omega
theorem aGz {a b:Int} (h:a<b):eG a b=a:=if_pos h
theorem aH9 {a b:Int} (h:¬a<b):eG a b=b:=if_neg h
theorem aIv (a b:Int):(if b<a then b else a)=eG a b:=by unfold eG;split <;> split <;> omega
def iY (x : aF) (L : List Int) : Nat → List Int
  | 0=>L
  | q+1=>match x.blocks[q]? with | some b=>(iY x L q).set b.toNat (eG 8 (x.size - ((q * 8:Nat):Int))) | none=>iY x L q
def dR (xs : List aF) : Nat → List Int
  | 0=>List.replicate 20 0
  | k+1=>match xs[k]? with | some x=>iY x (dR xs k) x.blocks.length | none=>dR xs k
theorem aEt {x:aF}{L:List Int}{q:Nat}{b:Int} (h:x.blocks[q]? =some b):(iY x L q).set b.toNat (eG 8 (x.size - ((q * 8:Nat):Int)))=iY x L (q+1):=by simp only [iY,h]
theorem aBv {xs:List aF}{k q:Nat}{x:aF} (h:xs[k]? =some x) (hq:x.blocks.length≤q) (hq2:q≤x.blocks.length):iY x (dR xs k) q=dR xs (k+1):=by
  have:q=x.blocks.length:=by omega
  subst this
  simp only [dR,h]
theorem eC {x : aF} {L : List Int} : ∀ q, (iY x L q).length = L.length
  | 0=>rfl
  | q+1=>by
    simp only [iY]
    split
    · rw [List.length_set];exact eC q
    · exact eC q
theorem cJ {xs : List aF} : ∀ k, (dR xs k).length = 20
  | 0=>by simp [dR]
  | k+1=>by
    simp only [dR]
    split
    · rw [eC];exact cJ k
    · exact cJ k
theorem aEu {x:aF} (h:cH x=0):0≤x.size∧x.size≤32:=by
  unfold cH at h
  split at h
  · split at h
    · exact absurd h (by decide)
    · split at h
      · unfold gD at h
        split at h
        · rename_i h1;exact h1.2
        · exact absurd h (by decide)
      · omega
  · exact absurd h (by decide)
theorem aEf {x:aF} (h:cH x=0):0≤x.kind∧x.kind≤2:=by
  unfold cH at h
  split at h
  · assumption
  · exact absurd h (by decide)
abbrev qL (f:DFs):List Int:=dR f.inodes f.inodes.length
def oA (f:DFs):Prop:=∀(j:Nat) (b:List UInt8),f.data[j]? =some b→(qL f)[j]? =some (b.length:Int)
noncomputable instance (f:DFs):Decidable (oA f):=Classical.propDecidable _
theorem aE9 {f:DFs}{k:Nat}{b:List UInt8}{n:Int} (hb:f.data[k]? =some b) (hn:(qL f)[k]? =some n) (h:¬(b.length:Int)=n):¬oA f:=fun hd=>by
  have:=hd k b hb
  rw [hn] at this
  exact h (Option.some.inj this).symm
theorem tW {f:DFs}{k:Nat} (hk:f.data.length≤k) (ha:∀(j:Nat) (b:List UInt8),j<k→f.data[j]? =some b→(qL f)[j]? =some (b.length:Int)):oA f:=fun j b hb=>ha j b (by have:=(List.getElem?_eq_some_iff.1 hb).1;omega) hb
theorem aIt {f:DFs}{k:Nat}{b:List UInt8}{n:Int} (ha:∀(j:Nat) (b:List UInt8),j<k→f.data[j]? =some b→(qL f)[j]? =some (b.length:Int)) (hb:f.data[k]? =some b) (hn:(qL f)[k]? =some n) (h:(b.length:Int)=n):∀(j:Nat) (b:List UInt8),j<k+1→f.data[j]? =some b→(qL f)[j]? =some (b.length:Int):=
  dS (q:=fun j (b:List UInt8)=>(qL f)[j]? =some (b.length:Int)) ha hb (by rw [hn,h])
structure kS (f : DFs) (j : Nat) (x : aF) : Prop where
  file:x.kind=1→x.links=(fV f.inodes (j:Int):Int)
  root:x.kind=2→j=0→(fV f.inodes (j:Int):Int)=0
  dir:x.kind=2→0<j→(fV f.inodes (j:Int):Int)=1
  way:¬x.kind=0→(j:Int)∈lE f.inodes 0
def lY (f:DFs):Prop:=∀(j:Nat) (x:aF),f.inodes[j]? =some x→kS f j x
noncomputable instance (f:DFs):Decidable (lY f):=Classical.propDecidable _
theorem fM {f:DFs}{k:Nat} (hk:f.inodes.length≤k) (ha:∀j x,j<k→f.inodes[j]? =some x→kS f j x):lY f:=fun j x hx=>ha j x (by have:=(List.getElem?_eq_some_iff.1 hx).1;omega) hx
noncomputable def vI (f:DFs):Int:=if lY f then 0 else 1
noncomputable def aFb (f:DFs):Int:=if oA f then 0 else 1
theorem kF {f:DFs} (h:¬lY f):vI f=1:=if_neg h
theorem kD {f:DFs} (h:lY f):vI f=0:=if_pos h
theorem aFh {f:DFs} (h:¬oA f):aFb f=1:=if_neg h
theorem aAw {f:DFs} (h:oA f):aFb f=0:=if_pos h
noncomputable def cS (f:DFs):Int:=if aX f=0 then if lY f∧oA f then 0 else 1 else aX f
theorem mJ {f:DFs} (h:¬aX f=0):cS f=aX f:=if_neg h
theorem fW {f:DFs} (h:aX f=0) (h2:¬lY f∨¬oA f):cS f=1:=by unfold cS;rw [if_pos h,if_neg (fun hh=>h2.elim (fun k=>k hh.1) (fun k=>k hh.2))]
theorem lR {f:DFs} (h:aX f=0) (h2:lY f) (h3:oA f):cS f=0:=by unfold cS;rw [if_pos h,if_pos ⟨h2,h3⟩]
theorem mF {f:DFs} (h:aX f=0) (h2:¬vI f=0):cS f=vI f:=by
  by_cases hl:lY f
  · exact absurd (kD hl) h2
  · rw [fW h (.inl hl),kF hl]
theorem mH {f:DFs} (h:aX f=0) (h2:vI f=0):cS f=aFb f:=by
  by_cases hl:lY f
  · by_cases hd : oA f
    · rw [lR h hl hd,aAw hd]
    · rw [fW h (.inr hd),aFh hd]
  · rw [kF hl] at h2;exact absurd h2 (by decide)
theorem nE {f:DFs} (h:cS f=0):aX f=0:=by
  unfold cS at h
  split at h
  · assumption
  · contradiction
noncomputable def dI (f:DFs) (a:Int):Int:=if cS f=0 then if bQ f.inodes.length a then if aY f.inodes a=2 then 9 else if aY f.inodes a=0 then 4 else 0 else 3 else cS f
theorem gX {f:DFs}{a:Int} (h:¬cS f=0):dI f a=cS f:=if_neg h
theorem hX {f:DFs}{a:Int} (h:cS f=0) (h2:¬bQ f.inodes.length a):dI f a=3:=by unfold dI;rw [if_pos h,if_neg h2]
theorem gZ {f:DFs}{a:Int} (h:cS f=0) (h2:bQ f.inodes.length a) (h3:aY f.inodes a=2):dI f a=9:=by unfold dI;rw [if_pos h,if_pos h2,if_pos h3]
theorem hZ {f:DFs}{a:Int} (h:cS f=0) (h2:bQ f.inodes.length a) (h3:¬aY f.inodes a=2) (h4:aY f.inodes a=0):dI f a=4:=by unfold dI;rw [if_pos h,if_pos h2,if_neg h3,if_pos h4]
theorem mX {f:DFs}{a:Int} (h:cS f=0) (h2:bQ f.inodes.length a) (h3:¬aY f.inodes a=2) (h4:¬aY f.inodes a=0):dI f a=0:=by unfold dI;rw [if_pos h,if_pos h2,if_neg h3,if_neg h4]
theorem aAq {f:DFs}{a:Int} (h:dI f a=0):cS f=0∧bQ f.inodes.length a∧¬aY f.inodes a=2∧¬aY f.inodes a=0:=by
  unfold dI at h
  split at h
  · split at h
    · split at h
      · exact absurd h (by decide)
      · split at h
        · exact absurd h (by decide)
        · rename_i h1 h2 h3 h4;exact⟨h1,h2,h3,h4⟩
    · exact absurd h (by decide)
  · contradiction
def wZ (data:List (List UInt8)) (b:Int):List UInt8:=data.getD b.toNat []
def kP (data:List (List UInt8)) (bs:List Int) (k:Nat):List UInt8:=((bs.take k).map (wZ data)).flatten
def gC (xs:List aF) (a:Int):List Int:=match xs[a.toNat]? with | some x=>x.blocks | none=> []
theorem vF {xs:List aF}{a:Int}{j:Nat}{x:aF} (hx:xs[j]? =some x) (h:a=(j:Int)):gC xs a=x.blocks:=by
  subst h
  unfold gC
  rw [Int.toNat_natCast,hx]
def cF (f:DFs) (a:Int):List UInt8:=kP f.data (gC f.inodes a) (gC f.inodes a).length
theorem aF3 {data:List (List UInt8)}{bs:List Int}{k:Nat}{b:Int}{d:List UInt8} (hb:bs[k]? =some b) (hd:data[b.toNat]? =some d):kP data bs k++d=kP data bs (k+1):=by
  unfold kP
  rw [←kO hb,List.map_append,List.flatten_append]
  simp [wZ,hd]
theorem aCm {data:List (List UInt8)}{bs:List Int}{k:Nat} (h:bs.length≤k):kP data bs k=kP data bs bs.length:=by
  unfold kP;rw [List.take_of_length_le h,List.take_length]
theorem vU {data:List (List UInt8)}{bs:List Int} (k:Nat) (h4:bs.length≤4) (h8:∀d,d∈data→d.length≤8):(kP data bs k).length≤32:=by
  unfold kP
  have h1:(bs.take k).length≤4:=by rw [List.length_take];omega
  have h2:∀l:List Int,((l.map (wZ data)).flatten).length≤l.length * 8:=by
    intro l
    induction l with
    | nil=>simp
    | cons b l ih=>
      have:(wZ data b).length≤8:=by
        unfold wZ
        rw [List.getD_eq_getElem?_getD]
        cases hd:data[b.toNat]? with
        | none=>simp
        | some d=>simpa using h8 d (List.mem_of_getElem? hd)
      simp only [List.map_cons,List.flatten_cons,List.length_append,List.length_cons]
      omega
  have:=h2 (bs.take k)
  omega
theorem aDr {f:DFs} (h:aX f=0):∀d,d∈f.data→d.length≤8:=fun d hd=>by
  have h1:=(sR h).2.1
  unfold yS at h1
  rw [List.any_eq_false] at h1
  have:=h1 d hd
  simp only [decide_eq_true_eq] at this
  omega
theorem oK {f:DFs} (h:aX f=0):f.data.length=20:=(vJ (sR h).1).2.2.2
noncomputable def lD (f:DFs) (a:Int):aDf:=if dI f a=0 then⟨0,cF f a⟩else⟨dI f a,[]⟩
theorem eP {f:DFs}{a:Int} (h:¬dI f a=0):lD f a=⟨dI f a,[]⟩:=if_neg h
theorem kI {f:DFs}{a:Int} (h:dI f a=0):lD f a=⟨0,cF f a⟩:=if_pos h
end Go.Proofs.YtmejbfmhaoilmaaGreatDoor
/- What is proved: arrays of whole numbers in memory and as values; the lesser of two numbers. No condition. -/
namespace Go.Proofs.YtmejbfmhaoilmaaGreatDoor
open Go Go.RowKit
set_option linter.unusedVariables false
set_option linter.unusedSimpArgs false
section
variable {P:Program}{T:eR}{Wd:World→Prop}{o:Oper}{x y:Operand}{t e:TypeId}
theorem aA7 {sz n j:Nat}{ad:Addr}{k:IntKind}{i:Int} (ho:o.op= .indexAddr t x y) (ht:P.underlying t=some (.array n e)) (he:(P.info? e).map (·.size)=some sz) (hx:Val T x (.pointer (some ad))) (hy:Val T y (.int k i)) (hi:i=j) (hj:j<n):
    eO P o T Wd (.pointer (some (ad.add (j * sz)))):=fun a w ha _=>by
  subst hi
  obtain⟨i0,h1,h2⟩:=Option.map_eq_some_iff.1 he
  simp only [execOp,ho,hx a ha,hy a ha]
  simp [Instr.indexAt,asIntOf,run_underlying ht,Instr.sureAddr,sizeOf,typeInfo,h1,h2,hj]
theorem aDg {n j:Nat}{L:List Int}{k:IntKind}{i z:Int} (ho:o.op= .index t x y) (ht:P.underlying t=some (.array n e)) (he:(P.info? e).map (·.size)=some 1) (hg:eE P e false) (hx:Val T x (.agg (L.map (Value.int .i64)).toArray)) (hy:Val T y (.int k i)) (hi:i=j) (hj:L[j]? =some z) (hl:L.length=n):
    eO P o T Wd (.int .i64 z):=fun a w ha _=>by
  subst hi
  obtain⟨i0,h1,h2⟩:=Option.map_eq_some_iff.1 he
  obtain⟨d,hd,hd2⟩:=hg.ex
  have hag:=rS hd w
  rw [hd2] at hag
  have hlt:j<n:=by rw [←hl];exact(List.getElem?_eq_some_iff.1 hj).1
  have hp:(part e (L.map (Value.int .i64)).toArray (j * 1)).run P w= .ok (.int .i64 z) w:=by
    unfold part
    rw [Sem.run_bind,hag]
    simp [hj]
  simp only [execOp,ho,hx a ha,hy a ha]
  simp [Instr.index,asIntOf,run_underlying ht,sizeOf,typeInfo,h1,h2,hlt]
  rw [Nat.mul_one] at hp
  simp [hp]
theorem aJ1 {ts:Array TypeId}{a b:Int}{k:IntKind} (ho:o.op= .call {callee:= .builtin .min,args:= #[x,y],argTypes:=ts}) (hx:Val T x (.int k a)) (hy:Val T y (.int k b)):eO P o T Wd (.int k (eG a b)):=fun ac w ha _=>by
  simp only [execOp,ho]
  simp [resolve,hx ac ha,hy ac ha,invoke,builtin,Builtin.min_,Builtin.min2,aIv]
end
theorem aAp {v : Value} : ∀ {l : List Value} {n : Nat}, n < l.length → mG l n v (l.set n v)
  | _ :: _,0,_=> .z
  | _ :: _,n+1,h=> .s (aAp (by simpa using h))
  | [],_,h=>by simp at h
theorem aKk {v:Value}{l:List Value}{n:Nat} (h:n<l.length):tR l n [v] (l.set n v):= .c (aAp h) .n
theorem aEc : ∀ {pre cs fl : List Value}, fl.length = cs.length → tR (pre ++ fl) pre.length cs (pre ++ cs)
  | pre,[],[],_=>by simpa using tR.n
  | pre,c :: cs,f :: fl,h=>by
    have h1:mG (pre++f :: fl) pre.length c ((pre++ [c])++fl):=by
      have:=aAp (v:=c) (l:=pre++f :: fl) (n:=pre.length) (by simp)
      simpa [List.set_append] using this
    have h2:=aEc (pre:=pre++ [c]) (cs:=cs) (fl:=fl) (by simpa using h)
    refine .c h1 ?_
    simpa using h2
  | _,[],_ :: _,h=>by simp at h
  | _,_ :: _,[],h=>by simp at h
theorem aGn {cs fl:List Value} (h:fl.length=cs.length):tR fl 0 cs cs:=by simpa using aEc (pre:= []) h
theorem map_set (L:List Int) (j:Nat) (z:Int):(L.map (Value.int .i64)).set j (.int .i64 z)=(L.set j z).map (Value.int .i64):=by rw [List.map_set]
theorem aIz {L:List Int}{j:Nat}{z:Int} (h:j<L.length):tR (L.map (Value.int .i64)) (j * 1) [.int .i64 z] ((L.set j z).map (Value.int .i64)):=by
  rw [Nat.mul_one,←map_set]
  exact aKk (by rwa [List.length_map])
theorem aIs (L:List Int):∀u,u∈L.map (Value.int .i64)→u.oneCell'=true:=fun u hu=>by
  obtain⟨z,_,rfl⟩:=List.mem_map.1 hu
  rfl
end Go.Proofs.YtmejbfmhaoilmaaGreatDoor
/- What is proved: one element of a slice of one's own, taken out and put back; a part of a slice of one's own, read; a row's cells as a slice of structs. No condition. -/
namespace Go.Proofs.YtmejbfmhaoilmaaGreatDoor
open Go Go.RowKit
set_option linter.unusedVariables false
set_option linter.unusedSimpArgs false
theorem aBf {α : Type} {K : Kd α} : ∀ {xs : List α} {css : List (List Value)} {j : Nat} {x : α} {c : List Value}, xs[j]? = some x → css[j]? = some c → jQ K xs css = jQ K (xs.take j) (css.take j) ++ aH K x c :: jQ K (xs.drop (j + 1)) (css.drop (j + 1))
  | [],_,_,_,_,hx,_=>by simp at hx
  | _,[],_,_,_,_,hc=>by simp at hc
  | y :: xs,d :: css,0,x,c,hx,hc=>by
    simp at hx hc
    subst hx;subst hc
    rfl
  | y :: xs,d :: css,j+1,x,c,hx,hc=>by
    have ih:=aBf (K:=K) (xs:=xs) (css:=css) (j:=j) (x:=x) (c:=c) (by simpa using hx) (by simpa using hc)
    rw [aGh,ih]
    rfl
theorem eJ {α:Type}{K:Kd α}{xs:List α}{css:List (List Value)}{j:Nat}{x:α}{c:List Value} (hx:xs[j]? =some x) (hc:css[j]? =some c) (w:World) (S:Bs) (h:(mZ K xs css).p w S):cI [aH K x c,mZ K (xs.take j) (css.take j),mZ K (xs.drop (j+1)) (css.drop (j+1))] w S:=by
  have h1:cI (jQ K xs css) w S:=h
  rw [aBf hx hc] at h1
  obtain⟨A,B,hA,⟨B1,B2,h2,h3,i1,i2,d1⟩,i,k,d⟩:=h1.split
  exact⟨B1,fun b=>A b∨B2 b,h2,⟨A,B2,hA,cI.one (c:=mZ K _ _) h3,fun _ h=> .inl h,fun _ h=> .inr h,fun b ha hb=>d b ha (i2 b hb)⟩,fun b hb=>k b (i1 b hb),fun b hb=>hb.elim (i b) (fun h=>k b (i2 b h)),fun b hb hb2=>hb2.elim (fun h=>d b h (i1 b hb)) (d1 b hb)⟩
theorem aCi {α:Type}{K:Kd α}{xs:List α}{css:List (List Value)}{j:Nat}{x:α}{c:List Value} (hx:xs[j]? =some x) (hc:css[j]? =some c) (w:World) (S:Bs) (h:cI [aH K x c,mZ K (xs.take j) (css.take j),mZ K (xs.drop (j+1)) (css.drop (j+1))] w S):(mZ K xs css).p w S:=by
  obtain⟨B1,C,h2,⟨A,B2,hA,h3,i1,i2,d1⟩,i,k,d⟩:=h
  show cI (jQ K xs css) w S
  rw [aBf hx hc]
  have h3':cI (jQ K (xs.drop (j+1)) (css.drop (j+1))) w B2:=cI.head (c:=mZ K _ _) h3
  exact cI.app hA ⟨B1,B2,h2,h3',fun _ h=> .inl h,fun _ h=> .inr h,fun b hb hb2=>d b hb (i2 b hb2)⟩ (S2:=fun b=>B1 b∨B2 b) (fun b hb=>k b (i1 b hb)) (fun b hb=>hb.elim (i b) (fun h=>k b (i2 b h))) (fun b ha hb=>hb.elim (fun h=>d b h (i1 b ha)) (d1 b ha))
theorem eU {α : Type} {K : Kd α} {e by_ : Nat} {xs : List α} {css css' : List (List Value)} {j : Nat} {x : α} {c : List Value} {v : Value} (hl : css.length = xs.length) (hj : j < xs.length) (he : css' = css.set j c) (w : World) (S : Bs)
    (h:cI [aH (bM e by_ (nR K.sz K.pos)) css' [v],aH K x c,mZ K (xs.take j) (css.take j),mZ K (xs.drop (j+1)) (css.drop (j+1))] w S):(aH (bM e by_ K) (xs.set j x) [v]).p w S:=by
  subst he
  obtain⟨A,B,hA,hB,i,k,d⟩:=h
  refine aEk (xs:=xs.set j x) (css:=css.set j c) (by rw [List.length_set,List.length_set];exact hl) w S ⟨A,B,hA,cI.one (c:=mZ K _ _) (aCi (j:=j) (x:=x) (c:=c) (by rw [List.getElem?_set_self hj]) (by rw [List.getElem?_set_self (by omega)]) w B ?_),i,k,d⟩
  rw [List.take_set_of_le (Nat.le_refl j),List.take_set_of_le (Nat.le_refl j),List.drop_set_of_lt (Nat.lt_succ_self j),List.drop_set_of_lt (Nat.lt_succ_self j)]
  exact hB
theorem eM {α : Type} {K : Kd α} {e by_ : Nat} {xs : List α} {css : List (List Value)} {j : Nat} {x : α} {c : List Value} {v : Value} (hl : css.length = xs.length) (hx : xs[j]? = some x) (hc : css[j]? = some c) (w : World) (S : Bs)
    (h:cI [aH (bM e by_ (nR K.sz K.pos)) css [v],aH K x c,mZ K (xs.take j) (css.take j),mZ K (xs.drop (j+1)) (css.drop (j+1))] w S):(aH (bM e by_ K) xs [v]).p w S:=by
  obtain⟨A,B,hA,hB,i,k,d⟩:=h
  exact aEk hl w S ⟨A,B,hA,cI.one (c:=mZ K _ _) (aCi hx hc w B hB),i,k,d⟩
theorem aIg {α:Type}{K:Kd α}{e by_ g sz:Nat}{x:α}{cs:List Value} (hsz:K.sz=sz) (hl:cs.length=sz) (hb:by_≤140737488355328) (w:World) (S:Bs) (h:cI [bV g e sz 1 cs,aH K x cs] w S):(aH (bM e by_ K) [x] [.slice (some ⟨g,0,none⟩) 1 1]).p w S:=by
  subst hsz
  obtain⟨A,B,hA,hB,i,k,d⟩:=h
  exact .inr ⟨g,1,[cs],rfl,Nat.le_refl _,by omega,by simpa using hb,rfl,A,B,by simpa using hA,⟨B,fun _=>False,cI.head (c:=aH K x cs) hB,trivial,fun _ h=>h,fun _ h=>h.elim,fun _ _ h=>h⟩,i,k,d⟩
theorem Tr.ptrpre {w0:World}{S0:Bs}{l':List Asn}{α:Type}{K:Kd α}{w:World}{S1:Bs}{lr:List Asn}{g e sz c:Nat}{ecs cs:List Value}{x:α} (tr:Tr w0 S0 w S1 lr) (tk:fG lr (bV g e sz c ecs) l') (hr:K.ro w (FF w S1) x cs) (hs:∀(i:Nat) (u:Value),cs[i]? =some u→ecs[i]? =some u):eV K w (FF w S1) ⟨g,0,none⟩ x:=by
  obtain⟨S2,hst,hsub⟩:=tr.all
  have h:=(hst.take tk).head
  refine⟨cs,hsub _ h.1,hr,fun i u hu=> ?_⟩
  rw [jN]
  exact qJ h (hs i u hu)
section
variable {P:Program}{T:eR}{Wd:World→Prop}{o:Oper}
theorem kK {x:Operand}{s f:Nat}{v u:Value} (ho:o.op= .field s x f) (hx:Val T x v) (hs:∀w,(Instr.field s v f).run P w= .ok u w):eO P o T Wd u:=fun a w ha _=>by
  simp only [execOp,ho,hx a ha];simp [hs w]
end
end Go.Proofs.YtmejbfmhaoilmaaGreatDoor
/- What is proved: new trees, reading files, dropping them, in plain Lean. No condition. -/
namespace Go.Proofs.YtmejbfmhaoilmaaGreatDoor
open Go Go.RowKit
set_option linter.unusedVariables false
set_option linter.unusedSimpArgs false
theorem vC {xs:List aF} (h:aZ xs=0) (a:Int):∀b,b∈gC xs a→0≤b∧b≤19:=by
  unfold gC
  cases hx:xs[a.toNat]? with
  | none=>intro b hb;cases hb
  | some x=>exact(lW (dM h x (List.mem_of_getElem? hx))).2
theorem aFr {xs:List aF} (h:aZ xs=0) (a:Int):(gC xs a).length≤4:=by
  unfold gC
  cases hx:xs[a.toNat]? with
  | none=>simp
  | some x=>exact(lW (dM h x (List.mem_of_getElem? hx))).1
theorem vL {f:DFs} (h:aX f=0) (a:Int):(cF f a).length≤32:=vU _ (aFr (hU h) a) (aDr h)
theorem uY (a b:Int):eG a b=eG b a:=by have:=jH a b;have:=jH b a;omega
def zU (L:List UInt8) (i n:Int):List UInt8:=fY L (eG i L.length).toNat (eG L.length (eG i L.length+n)).toNat
noncomputable def qA (f:DFs) (a i n:Int):aDf:=if dI f a=0 then if(0≤i∧i≤1000)∧(0≤n∧n≤100)then⟨0,zU (cF f a) i n⟩else⟨3,[]⟩else⟨dI f a,[]⟩
theorem aJv {f:DFs}{a i n:Int} (h:¬dI f a=0):qA f a i n=⟨dI f a,[]⟩:=if_neg h
theorem uC {f:DFs}{a i n:Int} (h:dI f a=0) (h2:¬((0≤i∧i≤1000)∧(0≤n∧n≤100))):qA f a i n=⟨3,[]⟩:=by unfold qA;rw [if_pos h,if_neg h2]
theorem uE {f:DFs}{a i n:Int} (h:dI f a=0) (h2:(0≤i∧i≤1000)∧(0≤n∧n≤100)):qA f a i n=⟨0,zU (cF f a) i n⟩:=by unfold qA;rw [if_pos h,if_pos h2]
theorem qT {f:DFs}{a:Int}:(lD f a).code=dI f a:=by
  unfold lD;split
  · rename_i h;exact h.symm
  · rfl
theorem aBi {f:DFs}{a:Int} (h:(lD f a).code=0):dI f a=0:=by rwa [qT] at h
theorem aAn {f:DFs}{a:Int} (h:¬(lD f a).code=0):¬dI f a=0:=by rwa [qT] at h
theorem aAl {f:DFs}{a:Int} (h:dI f a=0):(lD f a).bytes=cF f a:=by rw [kI h]
theorem tD {f:DFs}{a i n:Int} (h:¬dI f a=0):qA f a i n=lD f a:=by rw [aJv h,eP h]
def qB (data : List (List UInt8)) (bs : List Int) : Nat → List (List UInt8)
  | 0=>data
  | k+1=>match bs[k]? with | some b=>(qB data bs k).set b.toNat [] | none=>qB data bs k
theorem aFc {data:List (List UInt8)}{bs:List Int}{k:Nat}{b:Int} (h:bs[k]? =some b):(qB data bs k).set b.toNat []=qB data bs (k+1):=by simp only [qB,h]
theorem mK {data : List (List UInt8)} {bs : List Int} : ∀ k, (qB data bs k).length = data.length
  | 0=>rfl
  | k+1=>by
    simp only [qB]
    split
    · rw [List.length_set];exact mK k
    · exact mK k
abbrev kJ (f:DFs) (a:Int):List (List UInt8):=qB f.data (gC f.inodes a) (gC f.inodes a).length
abbrev uF (f:DFs) (a:Int):DFs:=⟨f.inodes.set a.toNat ⟨0,0,0,[],[]⟩,kJ f a⟩
end Go.Proofs.YtmejbfmhaoilmaaGreatDoor
/- What is proved: names taken out of a directory, in plain Lean. No condition. -/
namespace Go.Proofs.YtmejbfmhaoilmaaGreatDoor
open Go Go.RowKit
set_option linter.unusedVariables false
set_option linter.unusedSimpArgs false
abbrev aJt {α:Type} (p:α→Bool):α→Bool:=fun e=> !p e
theorem mA {α:Type}{p:α→Bool}{xs:List α} (h:¬eX p xs= -1):∃i:Nat,eX p xs=(i:Int)∧i<xs.length∧(xs.take (i+1)).filter (aJt p)=xs.take i:=by
  unfold eX at h ⊢
  cases hf:xs.findIdx? p with
  | none=>rw [hf] at h;exact absurd rfl h
  | some i=>
    obtain⟨hi,hp,hn⟩:=List.findIdx?_eq_some_iff_getElem.1 hf
    refine⟨i,rfl,hi,?_⟩
    rw [←kO (List.getElem?_eq_getElem hi),List.filter_append]
    have h1: [xs[i]].filter (aJt p)= []:=by simp [aJt,hp]
    rw [h1,List.append_nil,List.filter_eq_self]
    intro x hx
    obtain⟨j,hj,rfl⟩:=List.mem_take_iff_getElem.1 hx
    have:=hn j (by omega)
    simpa [aJt] using this
def gL (xs:List aF) (a:Int) (es:List bO):List aF:=match xs[a.toNat]? with | some y=>xs.set a.toNat ⟨y.kind,y.links,y.size,y.blocks,es⟩ | none=>xs
def fL (xs:List aF) (a:Int) (n:Int):List aF:=match xs[a.toNat]? with | some y=>xs.set a.toNat ⟨y.kind,n,y.size,y.blocks,y.ents⟩ | none=>xs
def dJ (xs:List aF) (a:Int):Int:=match xs[a.toNat]? with | some x=>x.links | none=>0
theorem xF {xs:List aF}{a:Int}{es:List bO}{j:Nat}{y:aF} (h:xs[j]? =some y) (hj:a=(j:Int)):xs.set j ⟨y.kind,y.links,y.size,y.blocks,es⟩=gL xs a es:=by
  subst hj;unfold gL;rw [Int.toNat_natCast,h]
theorem uQ {xs:List aF}{a n:Int}{j:Nat}{y:aF} (h:xs[j]? =some y) (hj:a=(j:Int)):xs.set j ⟨y.kind,n,y.size,y.blocks,y.ents⟩=fL xs a n:=by
  subst hj;unfold fL;rw [Int.toNat_natCast,h]
theorem dL {xs:List aF}{a:Int}{j:Nat}{x:aF} (hx:xs[j]? =some x) (h:a=(j:Int)):dJ xs a=x.links:=by
  subst h;unfold dJ;rw [Int.toNat_natCast,hx]
theorem dF {xs:List aF}{a:Int}{es:List bO}:(gL xs a es).length=xs.length:=by
  unfold gL;split <;> simp
theorem dT {xs:List aF}{a n:Int}:(fL xs a n).length=xs.length:=by
  unfold fL;split <;> simp
theorem pI {xs:List aF}{a:Int}{es:List bO} (j:Nat):∀y,(gL xs a es)[j]? =some y→∃x,xs[j]? =some x∧y=⟨x.kind,x.links,x.size,x.blocks,if j=a.toNat then es else x.ents⟩:=fun y hy=>by
  unfold gL at hy
  cases h:xs[a.toNat]? with
  | none=>
    rw [h] at hy
    refine⟨y,hy,?_⟩
    rw [if_neg (fun e=>by subst e;rw [h] at hy;cases hy)]
  | some x=>
    rw [h] at hy
    simp only at hy
    rw [List.getElem?_set] at hy
    split at hy
    · rename_i e
      split at hy
      · obtain rfl := Option.some.inj hy
        refine⟨x,by rw [←e];exact h,by rw [if_pos e.symm]⟩
      · cases hy
    · rename_i e
      exact⟨y,hy,by rw [if_neg (fun e2=>e e2.symm)]⟩
theorem zT {xs:List aF}{a n:Int} (j:Nat):∀y,(fL xs a n)[j]? =some y→∃x,xs[j]? =some x∧y=⟨x.kind,if j=a.toNat then n else x.links,x.size,x.blocks,x.ents⟩:=fun y hy=>by
  unfold fL at hy
  cases h:xs[a.toNat]? with
  | none=>
    rw [h] at hy
    refine⟨y,hy,?_⟩
    rw [if_neg (fun e=>by subst e;rw [h] at hy;cases hy)]
  | some x=>
    rw [h] at hy
    simp only at hy
    rw [List.getElem?_set] at hy
    split at hy
    · rename_i e
      split at hy
      · obtain rfl := Option.some.inj hy
        refine⟨x,by rw [←e];exact h,by rw [if_pos e.symm]⟩
      · cases hy
    · rename_i e
      exact⟨y,hy,by rw [if_neg (fun e2=>e e2.symm)]⟩
theorem xG {xs:List aF}{a k:Int}{es:List bO}:aY (gL xs a es) k=aY xs k:=by
  unfold aY
  cases h:(gL xs a es)[k.toNat]? with
  | none=>
    rw [List.getElem?_eq_none_iff,dF] at h
    rw [List.getElem?_eq_none h]
  | some y=>
    obtain⟨x,hx,rfl⟩:=pI _ y h
    rw [hx]
theorem aCs {xs:List aF}{a k:Int}{es:List bO}:dJ (gL xs a es) k=dJ xs k:=by
  unfold dJ
  cases h:(gL xs a es)[k.toNat]? with
  | none=>
    rw [List.getElem?_eq_none_iff,dF] at h
    rw [List.getElem?_eq_none h]
  | some y=>
    obtain⟨x,hx,rfl⟩:=pI _ y h
    rw [hx]
theorem uT {xs:List aF}{a k n:Int}:gC (fL xs a n) k=gC xs k:=by
  unfold gC
  cases h:(fL xs a n)[k.toNat]? with
  | none=>
    rw [List.getElem?_eq_none_iff,dT] at h
    rw [List.getElem?_eq_none h]
  | some y=>
    obtain⟨x,hx,rfl⟩:=zT _ y h
    rw [hx]
theorem vO {α : Type} (f : α → Nat) : ∀ {xs : List α} {i : Nat} {x y : α}, xs[i]? = some x → gJ f (xs.set i y) + f x = gJ f xs + f y
  | [],_,_,_,h=>by simp at h
  | z :: xs,0,x,y,h=>by simp at h;subst h;simp only [List.set_cons_zero,gJ];omega
  | z :: xs,i+1,x,y,h=>by
    have:=vO f (xs:=xs) (i:=i) (x:=x) (y:=y) (by simpa using h)
    simp only [List.set_cons_succ,gJ];omega
theorem aBs {xs:List aF}{a k n:Int}:fV (fL xs a n) k=fV xs k:=by
  unfold fL
  split
  · rename_i y hy
    have:=vO (gR k) (y:=⟨y.kind,n,y.size,y.blocks,y.ents⟩) hy
    unfold fV
    have e:gR k ⟨y.kind,n,y.size,y.blocks,y.ents⟩=gR k y:=rfl
    omega
  · rfl
theorem aCt : ∀ {x y z : List UInt8}, Op.bytesLess x y = true → Op.bytesLess y z = true → Op.bytesLess x z = true
  | x,[],_,h,_=>by cases x <;> simp [Op.bytesLess] at h
  | _,_ :: _,[],_,h=>by simp [Op.bytesLess] at h
  | [],_ :: _,_ :: _,_,_=>rfl
  | a :: x,b :: y,c :: z,h1,h2=>by
    simp only [Op.bytesLess,Bool.or_eq_true,decide_eq_true_eq,Bool.and_eq_true,beq_iff_eq] at *
    rcases h1 with h1 |⟨rfl,h1⟩
    · rcases h2 with h2 | ⟨rfl, h2⟩
      · exact .inl (UInt8.lt_trans h1 h2)
      · exact .inl h1
    · rcases h2 with h2 | ⟨rfl, h2⟩
      · exact .inl h2
      · exact .inr ⟨rfl,aCt h1 h2⟩
theorem zD : ∀ x : List UInt8, Op.bytesLess x x = false
  | []=>rfl
  | a :: x=>by simp [Op.bytesLess,zD x]
theorem aGk {s t u:ByteArray} (h1:sLt s t=true) (h2:sLt t u=true):sLt s u=true:=aCt h1 h2
theorem aDo (s:ByteArray):sLt s s=false:=zD _

theorem aDu {f:Nat→Int}{n:Nat} (h:aAj f n=0):∀j,j<n→f j=0:=fun j=>by
  induction j using Nat.strongRecOn with
  | _ j ih=>
    intro hj
    apply Classical.byContradiction
    intro hn
    exact hn ((vQ hj hn (fun i hi=>ih i hi (by omega))).symm.trans h)
theorem aC1 {x:aF} (h:iR x=0):∀(i j:Nat) (e g:bO),i<j→x.ents[i]? =some e→x.ents[j]? =some g→sLt e.name g.name=true:=by
  unfold iR at h
  split at h
  · exact absurd h (by decide)
  · have h1 : ∀ j, j < x.ents.length → pF x.ents j = 0 := aDu h
    intro i j e g hij he hg
    induction j generalizing g with
    | zero=>omega
    | succ j ih=>
      obtain⟨p,hp⟩:=aK (xs:=x.ents) (j:=j) (by have:=(List.getElem?_eq_some_iff.1 hg).1;omega)
      have h2:=h1 (j+1) (List.getElem?_eq_some_iff.1 hg).1
      have h3:sLt p.name g.name=true:=by
        unfold pF at h2
        rw [hg] at h2
        unfold nJ at h2
        simp only at h2
        split at h2
        · split at h2
          · rw [if_neg (by omega), show j + 1 - 1 = j by omega, hp] at h2
            simp only at h2
            split at h2
            · assumption
            · exact absurd h2 (by decide)
          · exact absurd h2 (by decide)
        · contradiction
      by_cases hj:i=j
      · subst hj
        rw [he] at hp
        obtain rfl:=Option.some.inj hp
        exact h3
      · exact aGk (ih p (by omega) hp) h3
def eT (es:List bO) (i:Nat):Int:=match es[i]? with | some e=>e.ino | none=> -1
theorem mW {es:List bO}{i:Nat}{e:bO} (h:es[i]? =some e):eT es i=e.ino:=by unfold eT;rw [h]
abbrev dG (f:DFs) (a:Int) (es:List bO):DFs:=⟨gL f.inodes a es,f.data⟩
def gY (f:DFs) (k:Int):DFs:=if aY f.inodes k=1 then if 1<dJ f.inodes k then⟨fL f.inodes k (dJ f.inodes k - 1),f.data⟩else if fV f.inodes k=0 then uF f k else f else f
theorem uG {f:DFs}{k:Int} (h:¬aY f.inodes k=1):gY f k=f:=if_neg h
theorem uL {f:DFs}{k:Int} (h:aY f.inodes k=1) (h2:1<dJ f.inodes k):gY f k=⟨fL f.inodes k (dJ f.inodes k - 1),f.data⟩:=by unfold gY;rw [if_pos h,if_pos h2]
theorem nK {f:DFs}{k:Int} (h:aY f.inodes k=1) (h2:¬1<dJ f.inodes k) (h3:fV f.inodes k=0):gY f k=uF f k:=by unfold gY;rw [if_pos h,if_neg h2,if_pos h3]
theorem uV {f:DFs}{k:Int} (h:aY f.inodes k=1) (h2:¬1<dJ f.inodes k) (h3:¬fV f.inodes k=0):gY f k=f:=by unfold gY;rw [if_pos h,if_neg h2,if_neg h3]
theorem oH {f:DFs}{k n:Int}:uF ⟨fL f.inodes k n,f.data⟩ k=uF f k:=by
  have h:(fL f.inodes k n).set k.toNat ⟨0,0,0,[],[]⟩=f.inodes.set k.toNat ⟨0,0,0,[],[]⟩:=by
    unfold fL
    split
    · rw [List.set_set]
    · rfl
  simp only [uF,kJ,h,uT]
theorem aD4 {xs:List aF}{k:Int}:fL xs k (dJ xs k)=xs:=by
  unfold fL dJ
  cases h:xs[k.toNat]? with
  | none=>rfl
  | some y=>
    obtain⟨hk,rfl⟩:=List.getElem?_eq_some_iff.1 h
    exact List.set_getElem_self hk
theorem aCh {xs:List aF}{k m n:Int}:fL (fL xs k m) k n=fL xs k n:=by
  unfold fL
  cases h:xs[k.toNat]? with
  | none=>simp only [h]
  | some y=>
    have hk:=(List.getElem?_eq_some_iff.1 h).1
    simp only [List.getElem?_set_self hk,List.set_set]
theorem uS {es:List bO}{s:ByteArray}{ix:Nat} (h:eX (dE s) es=(ix:Int)):fX es s=eT es ix:=by
  have hr:=gB (dE s) es
  obtain⟨e,he⟩:=aK (xs:=es) (j:=ix) (by omega)
  rw [mW he]
  exact uR (by omega) (by rw [h,Int.toNat_natCast];exact he)
theorem aBk {es:List bO}{s:ByteArray} (h:¬fX es s<0):∃ix:Nat,eX (dE s) es=(ix:Int):=by
  by_cases h2:eX (dE s) es<0
  · rw [sB h2] at h;exact absurd (by decide) h
  · exact⟨(eX (dE s) es).toNat,by omega⟩
structure wQ (f : DFs) (k : Int) : Prop where
  p:bQ f.inodes.length k
  d:f.data.length=20
  b:∀b,b∈gC f.inodes k→0≤b∧b≤19
  l:fV f.inodes k≤60
  k:aY f.inodes k=1→1≤dJ f.inodes k∧dJ f.inodes k≤60
theorem pK {f:DFs} (ht:aX f=0) {a:Int}{i:Nat}{e:bO} (h:(aG f.inodes a)[i]? =some e):bQ f.inodes.length e.ino:=by
  unfold aG at h
  cases hx:f.inodes[a.toNat]? with
  | none=>rw [hx] at h;simp at h
  | some x=>
    rw [hx] at h
    simp only at h
    have h1:=aBh (uH ht _ x hx i e h)
    have h2:=oN (dM (hU ht) x (List.mem_of_getElem? hx)) i e h
    exact⟨h2.2.1,by omega⟩
theorem zW {f:DFs} (ht:aX f=0) {a:Int}{i:Nat} (h:i<(aG f.inodes a).length):bQ f.inodes.length (eT (aG f.inodes a) i):=by
  obtain⟨e,he⟩:=aK h
  rw [mW he]
  exact pK ht he
theorem sW {f:DFs} (ht:aX f=0) {a:Int}{s:ByteArray} (h:¬fX (aG f.inodes a) s<0):bQ f.inodes.length (fX (aG f.inodes a) s):=by
  obtain⟨ix,hi⟩:=aBk h
  have hr:=gB (dE s) (aG f.inodes a)
  rw [uS hi]
  exact zW ht (by omega)
theorem aFu {f:DFs}{k n:Int} (h:wQ f k):bQ (fL f.inodes k n).length k∧∀b,b∈gC (fL f.inodes k n) k→0≤b∧b≤19:=⟨by rw [dT];exact h.p,by rw [uT];exact h.b⟩
end Go.Proofs.YtmejbfmhaoilmaaGreatDoor
/- What is proved: the bytes of a file, set anew, in plain Lean. No condition. -/
namespace Go.Proofs.YtmejbfmhaoilmaaGreatDoor
open Go Go.RowKit
set_option linter.unusedVariables false
set_option linter.unusedSimpArgs false
def xH (L:List UInt8) (k:Nat):List UInt8:=fY L (k * 8) (min ((k+1) * 8) L.length)
def vG (data : List (List UInt8)) (bs : List Int) (L : List UInt8) : Nat → List (List UInt8)
  | 0=>data
  | k+1=>match bs[k]? with | some b=>(vG data bs L k).set b.toNat (xH L k) | none=>vG data bs L k
theorem aD1 {data:List (List UInt8)}{bs:List Int}{L:List UInt8}{k:Nat}{b:Int} (h:bs[k]? =some b):(vG data bs L k).set b.toNat (xH L k)=vG data bs L (k+1):=by simp only [vG,h]
theorem tK {data : List (List UInt8)} {bs : List Int} {L : List UInt8} : ∀ k, (vG data bs L k).length = data.length
  | 0=>rfl
  | k+1=>by
    simp only [vG]
    split
    · rw [List.length_set];exact tK k
    · exact tK k
def vY (xs:List aF) (a:Int) (n:Int) (ws:List Int):List aF:=match xs[a.toNat]? with | some y=>xs.set a.toNat ⟨y.kind,y.links,n,ws,y.ents⟩ | none=>xs
theorem aIn {xs:List aF}{a n:Int}{ws:List Int}{j:Nat}{y:aF} (h:xs[j]? =some y) (hj:a=(j:Int)):xs.set j ⟨y.kind,y.links,n,ws,y.ents⟩=vY xs a n ws:=by
  subst hj;unfold vY;rw [Int.toNat_natCast,h]
abbrev aK7 (f:DFs) (a:Int) (L:List UInt8) (ws:List Int):DFs:=⟨vY f.inodes a L.length ws,vG (kJ f a) ws L ws.length⟩
abbrev fJ (f:DFs) (L:List UInt8) (busy:List Int):qD:=nB f.inodes busy (((L.length:Int)+7) / 8)
theorem aFa {xs:List aF}{busy:List Int}{n:Int} (h:(nB xs busy n).code=0):(∀b,b∈(nB xs busy n).list→0≤b∧b≤19)∧((nB xs busy n).list.length:Int)=n:=by
  unfold nB at h ⊢
  split
  · rename_i h1
    rw [if_pos h1] at h
    split
    · rename_i h2;rw [if_pos h2] at h;exact absurd h (by decide)
    · rename_i h2
      refine⟨fun b hb=> ?_,by simp only [List.length_take];omega⟩
      have:=(uA.1 (List.mem_of_mem_take hb)).1
      omega
  · rename_i h1;rw [if_neg h1] at h;exact absurd h (by decide)
noncomputable abbrev jW (f:DFs) (a:Int) (busy:List Int):Int:=if dI f a=0 then iP busy else dI f a
theorem aE0 {f:DFs}{a:Int}{busy:List Int} (h:¬dI f a=0):jW f a busy=dI f a:=if_neg h
theorem aEs {f:DFs}{a:Int}{busy:List Int} (h:dI f a=0):jW f a busy=iP busy:=if_pos h
theorem wOk {f:DFs}{a:Int}{busy:List Int} (h:jW f a busy=0):dI f a=0∧iP busy=0:=by
  unfold jW at h
  split at h
  · rename_i h1;exact⟨h1,h⟩
  · contradiction
def vK (f:DFs) (a:Int) (L:List UInt8) (busy:List Int):RFs:=if(L.length:Int)≤32 then if(fJ f L busy).code=0 then⟨0,aK7 f a L (fJ f L busy).list⟩else⟨(fJ f L busy).code,⟨[],[]⟩⟩else⟨2,⟨[],[]⟩⟩
theorem aBg {f:DFs}{a:Int}{L:List UInt8}{busy:List Int} (h:¬(L.length:Int)≤32):vK f a L busy=⟨2,⟨[],[]⟩⟩:=if_neg h
theorem aA5 {f:DFs}{a:Int}{L:List UInt8}{busy:List Int} (h:(L.length:Int)≤32) (h2:¬(fJ f L busy).code=0):vK f a L busy=⟨(fJ f L busy).code,⟨[],[]⟩⟩:=by unfold vK;rw [if_pos h,if_neg h2]
theorem aAb {f:DFs}{a:Int}{L:List UInt8}{busy:List Int} (h:(L.length:Int)≤32) (h2:(fJ f L busy).code=0):vK f a L busy=⟨0,aK7 f a L (fJ f L busy).list⟩:=by unfold vK;rw [if_pos h,if_pos h2]
def oC (L:List UInt8) (n:Int):List UInt8:=L++List.replicate (n.toNat - L.length) 0
theorem aIa (L:List UInt8):L=L++List.replicate 0 0:=by simp
theorem aHm {L:List UInt8}{k:Nat}:(L++List.replicate k (0:UInt8))++ [0]=L++List.replicate (k+1) 0:=by rw [List.append_assoc,←List.replicate_succ']
theorem yD {L:List UInt8}{k:Nat}:(L++List.replicate k (0:UInt8)).length=L.length+k:=by simp
theorem aBr {L:List UInt8}{n:Int}{k:Nat} (h1:k≤n.toNat - L.length) (h2:¬((L++List.replicate k (0:UInt8)).length:Int)<n):L++List.replicate k 0=oC L n:=by
  rw [yD] at h2
  unfold oC
  rw [show k=n.toNat - L.length by omega]
theorem uB {L:List UInt8}{n:Int}:(oC L n).length=L.length+(n.toNat - L.length):=by simp [oC]
noncomputable def pC (f:DFs) (a n:Int) (busy:List Int):RFs:=if jW f a busy=0 then if 0≤n∧n≤32 then vK f a ((oC (cF f a) n).take n.toNat) busy else⟨3,⟨[],[]⟩⟩else⟨jW f a busy,⟨[],[]⟩⟩
theorem aC8 {f:DFs}{a n:Int}{busy:List Int} (h:¬jW f a busy=0):pC f a n busy=⟨jW f a busy,⟨[],[]⟩⟩:=if_neg h
theorem aDp {f:DFs}{a n:Int}{busy:List Int} (h:jW f a busy=0) (h2:¬(0≤n∧n≤32)):pC f a n busy=⟨3,⟨[],[]⟩⟩:=by unfold pC;rw [if_pos h,if_neg h2]
theorem aDe {f:DFs}{a n:Int}{busy:List Int} (h:jW f a busy=0) (h2:0≤n∧n≤32):pC f a n busy=vK f a ((oC (cF f a) n).take n.toNat) busy:=by unfold pC;rw [if_pos h,if_pos h2]
def uU (L:List UInt8) (i:Nat) (ys:List UInt8) (q:Nat):List UInt8:=L.take i++ys.take q++L.drop (i+q)
theorem aK5 (L:List UInt8) (i:Nat) (ys:List UInt8):L=uU L i ys 0:=by simp [uU]
theorem aH0 {L:List UInt8}{i q:Nat}{ys:List UInt8} (h:i+q≤L.length) (h2:q≤ys.length):(uU L i ys q).length=L.length:=by
  simp only [uU,List.length_append,List.length_take,List.length_drop];omega
theorem aIc {L:List UInt8}{i q:Nat}{ys:List UInt8}{y:UInt8} (h:ys[q]? =some y) (hl:i+q<L.length):(uU L i ys q).set (i+q) y=uU L i ys (q+1):=by
  have hq:=(List.getElem?_eq_some_iff.1 h).1
  unfold uU
  have h1:(L.take i++ys.take q).length=i+q:=by rw [List.length_append,List.length_take,List.length_take];omega
  rw [List.set_append_right _ _ (by omega),h1,Nat.sub_self,List.drop_eq_getElem_cons hl,List.set_cons_zero,←kO h]
  simp [List.append_assoc,Nat.add_assoc]
theorem aGx {L:List UInt8}{i q:Nat}{ys:List UInt8} (h:ys.length≤q) (h2:q≤ys.length):uU L i ys q=uU L i ys ys.length:=by rw [show q=ys.length by omega]
abbrev aDj (f:DFs) (a i:Int) (ys:List UInt8):List UInt8:=uU (oC (cF f a) (i+ys.length)) i.toNat ys ys.length
noncomputable def gT (f:DFs) (a i:Int) (ys:List UInt8) (busy:List Int):RFs:=
  if jW f a busy=0 then if 0≤i∧i≤1000 then if 32<i+ys.length then⟨2,⟨[],[]⟩⟩else if(ys.length:Int)=0 then⟨0,f⟩else vK f a (aDj f a i ys) busy else⟨3,⟨[],[]⟩⟩else⟨jW f a busy,⟨[],[]⟩⟩
theorem rJ {f:DFs}{a i:Int}{ys:List UInt8}{busy:List Int} (h:¬jW f a busy=0):gT f a i ys busy=⟨jW f a busy,⟨[],[]⟩⟩:=if_neg h
theorem qQ {f:DFs}{a i:Int}{ys:List UInt8}{busy:List Int} (h:jW f a busy=0) (h2:¬(0≤i∧i≤1000)):gT f a i ys busy=⟨3,⟨[],[]⟩⟩:=by unfold gT;rw [if_pos h,if_neg h2]
theorem rK {f:DFs}{a i:Int}{ys:List UInt8}{busy:List Int} (h:jW f a busy=0) (h2:0≤i∧i≤1000) (h3:32<i+ys.length):gT f a i ys busy=⟨2,⟨[],[]⟩⟩:=by unfold gT;rw [if_pos h,if_pos h2,if_pos h3]
theorem qG {f:DFs}{a i:Int}{ys:List UInt8}{busy:List Int} (h:jW f a busy=0) (h2:0≤i∧i≤1000) (h3:¬32<i+ys.length) (h4:(ys.length:Int)=0):gT f a i ys busy=⟨0,f⟩:=by unfold gT;rw [if_pos h,if_pos h2,if_neg h3,if_pos h4]
theorem qS {f:DFs}{a i:Int}{ys:List UInt8}{busy:List Int} (h:jW f a busy=0) (h2:0≤i∧i≤1000) (h3:¬32<i+ys.length) (h4:¬(ys.length:Int)=0):gT f a i ys busy=vK f a (aDj f a i ys) busy:=by unfold gT;rw [if_pos h,if_pos h2,if_neg h3,if_neg h4]
theorem aBn {L:List UInt8}{q:Nat}:fY L (q * 8) (Int.toNat (eG (L.length:Int) (((q+1) * 8:Nat):Int)))=xH L q:=by
  unfold xH
  have:=jH (L.length:Int) (((q+1) * 8:Nat):Int)
  rw [show Int.toNat (eG (L.length:Int) (((q+1) * 8:Nat):Int))=min ((q+1) * 8) L.length by omega]
theorem aFq {L:List UInt8}{q:Nat}:fY L (q * 8) (Int.toNat (eG (((q+1) * 8:Nat):Int) (L.length:Int)))=xH L q:=by
  rw [uY];exact aBn
theorem aMs {xs:List aF}{b:List Int} (h:aZ xs=0) (h2:iP b=0):jC xs b=0:=by unfold jC;rw [if_pos h,h2]
end Go.Proofs.YtmejbfmhaoilmaaGreatDoor
/- What is proved: copy into a part of a slice of one's own. No condition. -/
namespace Go.Proofs.YtmejbfmhaoilmaaGreatDoor
open Go Go.RowKit
set_option linter.unusedVariables false
set_option linter.unusedSimpArgs false
section
variable {P:Program}{T:eR}{o:Oper}{w0:World}{S0:Bs}{l l':List Asn}
end
end Go.Proofs.YtmejbfmhaoilmaaGreatDoor
/- What is proved: paths: cut at a byte, joined again, in plain Lean. No condition. -/
namespace Go.Proofs.YtmejbfmhaoilmaaGreatDoor
open Go Go.RowKit
set_option linter.unusedVariables false
set_option linter.unusedSimpArgs false
abbrev sl1:ByteArray:=⟨#[47]⟩
def nC : List UInt8 → List (List UInt8)
  | []=> [[]]
  | b :: l=>if b=47 then [] :: nC l else match nC l with | []=> [[b]] | p :: ps=>(b :: p) :: ps
theorem aJi : ∀ l, nC l ≠ []
  | []=>by simp [nC]
  | b :: l=>by
    unfold nC
    split
    · simp
    · split <;> simp
theorem aAc : ∀ {l : List UInt8}, (∀ b, b ∈ l → b ≠ 47) → nC l = [l]
  | [],_=>rfl
  | b :: l,h=>by
    unfold nC
    rw [if_neg (h b (by simp)),aAc (fun c hc=>h c (by simp [hc]))]
theorem aA3 : ∀ {n : Nat} {l : List UInt8}, (∀ (j : Nat) b, j < n → l[j]? = some b → b ≠ 47) → l[n]? = some 47 → nC l = l.take n :: nC (l.drop (n + 1))
  | 0,[],_,h=>by simp at h
  | 0,b :: l,_,h=>by
    have:b=47:=by simpa using h
    subst this
    rw [nC,if_pos rfl]
    simp
  | n+1,[],_,h=>by simp at h
  | n+1,b :: l,ha,h=>by
    have ih:=aA3 (n:=n) (l:=l) (fun j c hj hc=>ha (j+1) c (by omega) (by simpa using hc)) (by simpa using h)
    have h0:b≠47:=ha 0 b (by omega) (by simp)
    rw [nC,if_neg h0,ih]
    simp
theorem aCw : ∀ l : List UInt8, Lib.split l [47] = nC l
  | []=>by
    have:Lib.index [] [47]= -1:=by decide
    unfold Lib.split
    rw [Lib.count_miss this]
    rfl
  | b :: l=>by
    have ih:=aCw l
    unfold Lib.split at ih ⊢
    by_cases hb:b=47
    · subst hb
      have hix:Lib.index ((47:UInt8) :: l) [47]=((0:Nat):Int):=by rw [Lib.index];simp [List.isPrefixOf]
      rw [Lib.count_cons_eq,Nat.add_comm,Lib.splitK,if_neg (by rw [hix];decide),hix]
      rw [nC,if_pos rfl,←ih]
      simp
    · have hp : ([47] : List UInt8).isPrefixOf (b :: l) = false := by simp [List.isPrefixOf, Ne.symm hb]
      have hix:Lib.index (b :: l) [47]=if Lib.index l [47] == -1 then -1 else Lib.index l [47]+1:=by rw [Lib.index,hp];simp
      rw [Lib.count_cons_ne b 47 l hb,nC,if_neg hb]
      by_cases hm:Lib.index l [47]= -1
      · rw [Lib.count_miss hm] at ih ⊢
        rw [Lib.splitK] at ih ⊢
        rw [←ih]
      · have hge := Lib.index_ge l [47]
        obtain⟨j,hj⟩:∃j:Nat,Lib.index l [47]=j:=⟨(Lib.index l [47]).toNat,by omega⟩
        have hc:Lib.count l [47]=Lib.count (l.drop (j+1)) [47]+1:=by rw [Lib.count_hit (by simp) hj];simp;omega
        have hix':Lib.index (b :: l) [47]=((j+1:Nat):Int):=by rw [hix,if_neg (fun e=>hm (beq_iff_eq.1 e)),hj];omega
        rw [hc] at ih ⊢
        rw [Lib.splitK,if_neg (by rw [hj];simp),hj] at ih
        rw [Lib.splitK,if_neg (by rw [hix'];simp;omega),hix',←ih]
        simp
def jL (s:ByteArray):List ByteArray:=(nC s.data.toList).map kR
theorem nN (s:ByteArray):kR s.data.toList=s:=by cases s;simp [kR]
theorem aDk (s:ByteArray):Lib.splitB sl1 0 (Lib.countB s sl1) s=jL s:=by
  have h:=Lib.splitB_data sl1 0 (Lib.countB s sl1) s
  have e:Lib.splitK sl1.data.toList 0 (Lib.countB s sl1) s.data.toList=nC s.data.toList:=aCw s.data.toList
  rw [e] at h
  unfold jL
  rw [←h,List.map_map]
  have:(kR ∘ fun x:ByteArray=>x.data.toList)=id:=funext fun x=>nN x
  rw [this,List.map_id]
theorem aB5 : ∀ l : List UInt8, (nC l).length ≤ l.length + 1
  | []=>by simp [nC]
  | b :: l=>by
    have:=aB5 l
    unfold nC
    split
    · simp;omega
    · split
      · simp
      · rename_i p ps h
        rw [h] at this
        simp at this ⊢
        omega
theorem rX : ∀ (l : List UInt8) (p : List UInt8), p ∈ nC l → p.length ≤ l.length
  | [],p,h=>by simp [nC] at h;subst h;simp
  | b :: l,p,h=>by
    unfold nC at h
    split at h
    · rcases List.mem_cons.1 h with rfl | h
      · simp
      · have:=rX l p h;simp;omega
    · split at h
      · rename_i h2;exact absurd h2 (aJi l)
      · rename_i q ps h2
        rcases List.mem_cons.1 h with rfl | h
        · have:=rX l q (by rw [h2];simp);simp;omega
        · have:=rX l p (by rw [h2];simp [h]);simp;omega
theorem rY {s p:ByteArray} (h:p∈jL s):p.size≤s.size:=by
  unfold jL at h
  obtain⟨q,hq,rfl⟩:=List.mem_map.1 h
  have:=rX _ q hq
  have e:=iG s
  have e2:(kR q).size=q.length:=by simp [kR,ByteArray.size]
  omega
def CI (l:List UInt8) (m k:Nat) (out:List ByteArray):Prop:=
  m≤k∧(∀(j:Nat) b,m≤j→j<k→l[j]? =some b→b≠47)∧(nC l).map kR=out++(nC (l.drop m)).map kR
theorem aN0 {l:List UInt8}:CI l 0 0 []:=⟨Nat.le_refl _,fun j b h1 h2=>absurd h2 (by omega),rfl⟩
theorem aL0 {l:List UInt8}{m k:Nat}{out:List ByteArray}{b:UInt8} (h:CI l m k out) (hb:l[k]? =some b) (hn:b≠47):CI l m (k+1) out:=
  ⟨by have:=h.1;omega,fun j c h1 h2 hc=>by
    rcases Nat.lt_succ_iff_lt_or_eq.1 h2 with h3 | rfl
    · exact h.2.1 j c h1 h3 hc
    · rw [hb] at hc;obtain rfl:=Option.some.inj hc;exact hn,h.2.2⟩
theorem aMj {s:ByteArray}{m k:Nat}{out:List ByteArray}{b:UInt8} (h:CI s.data.toList m k out) (hb:s.data.toList[k]? =some b) (hn:b=47):CI s.data.toList (k+1) (k+1) (out++ [s.extract m k]):=by
  subst hn
  obtain⟨h1,h2,h3⟩:=h
  refine⟨Nat.le_refl _,fun j c a b=>absurd a (by omega),?_⟩
  have hk:m+(k - m)=k:=by omega
  have e:=aA3 (n:=k - m) (l:=s.data.toList.drop m) (fun j c hj hc=>h2 (m+j) c (by omega) (by omega) (by rw [List.getElem?_drop] at hc;exact hc)) (by rw [List.getElem?_drop,hk];exact hb)
  rw [h3,e,List.drop_drop,List.map_cons,show m+(k - m+1)=k+1 by omega]
  have e2:s.extract m k=kR (List.take (k - m) (List.drop m s.data.toList)):=by
    rw [←nN (s.extract m k),Lib.extract_data]
  rw [e2]
  simp
theorem aC9 {s:ByteArray}{m k:Nat}{out:List ByteArray} (h:CI s.data.toList m k out) (hk:k=s.size):out++ [s.extract m k]=jL s:=by
  subst hk
  obtain⟨h1,h2,h3⟩:=h
  unfold jL
  rw [h3,aAc (fun b hb=>by
    obtain⟨j,hj⟩:=List.mem_iff_getElem?.1 hb
    rw [List.getElem?_drop] at hj
    have:=(List.getElem?_eq_some_iff.1 hj).1
    rw [iG] at this
    exact h2 (m+j) b (by omega) (by omega) hj)]
  have e:List.take (s.size - m) (List.drop m s.data.toList)=List.drop m s.data.toList:=List.take_of_length_le (by rw [List.length_drop,iG];omega)
  rw [←nN (s.extract m s.size),Lib.extract_data,e]
  simp
def pY : List ByteArray → Int
  | []=>0
  | s :: l=>if aV s=0 then pY l else aV s
theorem yB : ∀ {xs : List ByteArray}, (∀ (j : Nat) s, xs[j]? = some s → aV s = 0) → pY xs = 0
  | [],_=>rfl
  | s :: l,h=>by
    unfold pY
    rw [if_pos (h 0 s (by simp))]
    exact yB (fun j t ht=>h (j+1) t (by simpa using ht))
theorem zO : ∀ {xs : List ByteArray} {k : Nat} {s : ByteArray}, (∀ (j : Nat) s, j < k → xs[j]? = some s → aV s = 0) → xs[k]? = some s → ¬ aV s = 0 → pY xs = aV s
  | [],_,_,_,h,_=>by simp at h
  | t :: l,0,s,_,h,hn=>by
    have:t=s:=by simpa using h
    subst this
    unfold pY
    rw [if_neg hn]
  | t :: l,k+1,s,ha,h,hn=>by
    unfold pY
    rw [if_pos (ha 0 t (by omega) (by simp))]
    exact zO (k:=k) (fun j u hj hu=>ha (j+1) u (by omega) (by simpa using hu)) (by simpa using h) hn
theorem aCo : ∀ {xs : List ByteArray}, pY xs = 0 → ∀ s, s ∈ xs → aV s = 0
  | [],_,_,h=>by simp at h
  | t :: l,h0,s,h=>by
    unfold pY at h0
    split at h0
    · rename_i ht
      rcases List.mem_cons.1 h with rfl | h
      · exact ht
      · exact aCo h0 s h
    · rename_i ht;exact absurd h0 ht
def mL (xs:List ByteArray):Int:=if 6<xs.length then 2 else pY xs
theorem tC {xs:List ByteArray} (h:6<xs.length):mL xs=2:=if_pos h
theorem aBt {xs:List ByteArray} (h:¬6<xs.length) {k:Nat}{s:ByteArray} (ha:∀(j:Nat) s,j<k→xs[j]? =some s→aV s=0) (hs:xs[k]? =some s) (hn:¬aV s=0):mL xs=aV s:=by rw [mL,if_neg h,zO ha hs hn]
theorem qM {xs:List ByteArray} (h:¬6<xs.length) {k:Nat} (ha:∀(j:Nat) s,j<k→xs[j]? =some s→aV s=0) (hk:xs.length≤k):mL xs=0:=by
  rw [mL,if_neg h]
  exact yB fun j s hs=>ha j s (Nat.lt_of_lt_of_le (List.getElem?_eq_some_iff.1 hs).1 hk) hs
theorem aI3 {xs:List ByteArray} (h:mL xs=0):xs.length≤6∧∀s,s∈xs→aV s=0:=by
  unfold mL at h
  split at h
  · exact absurd h (by decide)
  · exact⟨by omega,aCo h⟩
abbrev rM (s:ByteArray):ByteArray:=ByteArray.extract s 1 s.size
def wV (s:ByteArray):Prop:=s.data.toList[0]? ≠some 47∨s.data.toList[s.size - 1]? =some 47
instance (s:ByteArray):Decidable (wV s):=by unfold wV;infer_instance
def eS (s:ByteArray):Int:=if 30<s.size then 2 else if s=sl1 then 0 else if wV s then 5 else mL (jL (rM s))
def bC (s:ByteArray):List ByteArray:=if eS s=0∧s≠sl1 then jL (rM s)else []
theorem aE8 {s:ByteArray} (h:30<s.size):eS s=2∧bC s= []:=by
  have:eS s=2:=if_pos h
  exact⟨this,by rw [bC,if_neg];rw [this];simp⟩
theorem wO {s:ByteArray} (h:¬30<s.size) (h2:s=sl1):eS s=0∧bC s= []:=by
  have:eS s=0:=by rw [eS,if_neg h,if_pos h2]
  exact⟨this,by rw [bC,if_neg];simp [h2]⟩
theorem tT {s:ByteArray} (h:¬30<s.size) (h2:¬s=sl1) (h3:wV s):eS s=5∧bC s= []:=by
  have:eS s=5:=by rw [eS,if_neg h,if_neg h2,if_pos h3]
  exact⟨this,by rw [bC,if_neg];rw [this];simp⟩
theorem aAi {s:ByteArray} (h:¬30<s.size) (h2:¬s=sl1) (h3:¬wV s) (h4:¬mL (jL (rM s))=0):eS s=mL (jL (rM s))∧bC s= []:=by
  have:eS s=mL (jL (rM s)):=by rw [eS,if_neg h,if_neg h2,if_neg h3]
  exact⟨this,by rw [bC,if_neg];rw [this];simp [h4]⟩
theorem aA1 {s:ByteArray} (h:¬30<s.size) (h2:¬s=sl1) (h3:¬wV s) (h4:mL (jL (rM s))=0):eS s=0∧bC s=jL (rM s):=by
  have:eS s=0:=by rw [eS,if_neg h,if_neg h2,if_neg h3,h4]
  exact⟨this,by rw [bC,if_pos ⟨this,h2⟩]⟩
theorem lI (s:ByteArray):(bC s).length≤6∧∀x,x∈bC s→aV x=0:=by
  by_cases h:eS s=0∧s≠sl1
  · obtain ⟨h1, h2⟩ := h
    have h3:bC s=jL (rM s):=by rw [bC,if_pos ⟨h1,h2⟩]
    unfold eS at h1
    split at h1
    · exact absurd h1 (by decide)
    · split at h1
      · exact absurd h1 (by decide)
      · rw [h3];exact aI3 h1
  · rw [bC,if_neg h];simp
def gA (xs:List ByteArray):List UInt8:=(xs.map (fun s=>47 :: s.data.toList)).flatten
def jD (xs:List ByteArray):ByteArray:=if xs= []then sl1 else kR (gA xs)
theorem aAa (xs:List ByteArray):sl1++kR (Lib.join (xs.map (·.data.toList)) [47])=jD xs:=by
  cases xs with
  | nil=>rfl
  | cons x r=>
    rw [jD,if_neg (by simp),List.map_cons,Lib.join_cons]
    rw [←nN (sl1++_)]
    congr 1
    simp [gA,Lib.joinTail,kR,List.map_map,Function.comp_def]
theorem zF {xs:List ByteArray} (h:∀s,s∈xs→aV s=0):(gA xs).length≤5 * xs.length:=by
  induction xs with
  | nil=>simp [gA]
  | cons x r ih=>
    have h1:=(oU (h x (by simp))).1
    have h2:=ih (fun s hs=>h s (by simp [hs]))
    have h3:=iG x
    simp only [gA,List.map_cons,List.flatten_cons,List.length_append,List.length_cons] at h2 ⊢
    omega
def jnB (xs:List ByteArray):ByteArray:=kR (gA xs)
theorem aJ9 {xs:List ByteArray}{k:Nat}{x:ByteArray} (h:xs[k]? =some x):jnB (xs.take k)++sl1++x=jnB (xs.take (k+1)):=by
  rw [List.take_add_one,h]
  have e:∀a b:ByteArray,a=kR b.data.toList→a=b:=fun a b h=>by rw [h,nN]
  symm
  apply e
  unfold jnB
  congr 1
  simp [gA,kR]
theorem aJ0 {xs:List ByteArray}:(jnB xs=⟨#[]⟩)↔xs= []:=by
  constructor
  · intro h
    cases xs with
    | nil=>rfl
    | cons x r=>
      have:=congrArg (fun b:ByteArray=>b.data.toList) h
      simp [jnB,kR,gA] at this
  · rintro rfl;rfl
theorem aE7 {xs:List ByteArray} (h:jnB xs=⟨#[]⟩):jD xs=sl1:=if_pos (aJ0.1 h)
theorem aE3 {xs:List ByteArray} (h:¬jnB xs=⟨#[]⟩):jD xs=jnB xs:=if_neg (fun e=>h (aJ0.2 e))
theorem yM {xs:List ByteArray} (h:∀s,s∈xs→aV s=0):(jnB xs).size≤5 * xs.length:=by
  have:=zF h
  simpa [jnB,kR,ByteArray.size] using this
theorem mD {xs:List ByteArray} (h:∀s,s∈xs→aV s=0):(jD xs).size≤5 * xs.length+1:=by
  unfold jD
  split
  · show(1:Nat)≤_;omega
  · have:=yM h;unfold jnB at this;omega
theorem aJk {xs:List ByteArray} (h:∀s,s∈xs→aV s=0) (hl:xs.length≤6):(kR (Lib.join (List.map (fun s:ByteArray=>s.data.toList) xs) [47])).size≤30:=by
  have h1:=mD h
  have h2:=congrArg ByteArray.size (aAa xs)
  rw [ByteArray.size_append] at h2
  have h3:sl1.size=1:=rfl
  have h4:(kR (Lib.join (xs.map (·.data.toList)) [47])).size=(kR (Lib.join (List.map (fun s:ByteArray=>s.data.toList) xs) [47])).size:=rfl
  omega
theorem aLc {s:ByteArray}{b:UInt8}{j:Nat} (h:s.data.toList[j]? =some b):j<s.size:=by rw [←iG];exact(List.getElem?_eq_some_iff.1 h).1
theorem oP {b:UInt8}:(b.toNat:Int)=47↔b=47:=⟨fun h=>UInt8.toNat_inj.1 (show b.toNat=(47:UInt8).toNat by have:(47:UInt8).toNat=47:=rfl;omega),fun h=>by subst h;rfl⟩
theorem aCg {s:ByteArray} (h:(s.size:Int)=0):wV s:= .inl (by rw [List.getElem?_eq_none (by rw [iG];omega)];simp)
theorem aKc {s:ByteArray}{b:UInt8} (hb:s.data.toList[0]? =some b) (h:¬(b.toNat:Int)=47):wV s:= .inl (by rw [hb];intro e;exact h (oP.2 (Option.some.inj e)))
theorem aMp {s:ByteArray}{b:UInt8}{j:Nat} (hb:s.data.toList[j]? =some b) (hj:j=s.size - 1) (h:(b.toNat:Int)=47):wV s:= .inr (by rw [←hj,hb,oP.1 h])
theorem aNd {s:ByteArray}{b c:UInt8}{j:Nat} (hb:s.data.toList[0]? =some b) (h:(b.toNat:Int)=47) (hc:s.data.toList[j]? =some c) (hj:j=s.size - 1) (hn:¬(c.toNat:Int)=47):¬wV s:=by
  rintro(h1 | h1)
  · exact h1 (by rw [hb,oP.1 h])
  · rw [←hj,hc] at h1;exact hn (oP.2 (Option.some.inj h1))
theorem yY {s:ByteArray} (h:s.data.toList[0]? =some 47) (h2:¬s.data.toList[s.size - 1]? =some 47):¬wV s:=by
  rintro(h1 | h1)
  · exact h1 h
  · exact h2 h1
def jF (s:ByteArray):Int:=if eS s=0 then if bC s= []then 4 else 0 else eS s
def fO (s:ByteArray):List ByteArray:=if jF s=0 then(bC s).take ((bC s).length - 1)else []
def nI (s:ByteArray):ByteArray:=if jF s=0 then((bC s)[(bC s).length - 1]?).getD ⟨#[]⟩else⟨#[]⟩
theorem uX {s:ByteArray} (h:¬eS s=0):jF s=eS s∧fO s= []∧nI s=⟨#[]⟩:=by
  have:jF s=eS s:=if_neg h
  exact⟨this,by rw [fO,this,if_neg h],by rw [nI,this,if_neg h]⟩
theorem vH {s:ByteArray} (h:eS s=0) (h2:bC s= []):jF s=4∧fO s= []∧nI s=⟨#[]⟩:=by
  have:jF s=4:=by rw [jF,if_pos h,if_pos h2]
  exact⟨this,by rw [fO,this,if_neg (by decide)],by rw [nI,this,if_neg (by decide)]⟩
theorem vA {s:ByteArray} (h:eS s=0) (h2:¬bC s= []):jF s=0∧fO s=(bC s).take ((bC s).length - 1)∧∀(j:Nat) x,j=(bC s).length - 1→(bC s)[j]? =some x→nI s=x:=by
  have:jF s=0:=by rw [jF,if_pos h,if_neg h2]
  exact⟨this,by rw [fO,if_pos this],fun j x hj hx=>by rw [nI,if_pos this,←hj,hx];rfl⟩
theorem lU {α:Type}{xs:List α}:(xs.length:Int)=0↔xs= []:=by rw [←List.length_eq_zero_iff];omega
theorem aGo (s:ByteArray):(fO s).length≤6∧∀x,x∈fO s→aV x=0:=by
  have h:=lI s
  unfold fO
  split
  · exact⟨by rw [List.length_take];omega,fun x hx=>h.2 x (List.mem_of_mem_take hx)⟩
  · simp
theorem sL (s:ByteArray):(nI s).size≤4:=by
  unfold nI
  split
  · cases hx:(bC s)[(bC s).length - 1]? with
    | none=>exact Nat.zero_le _
    | some x=>exact(oU ((lI s).2 x (List.mem_of_getElem? hx))).1
  · exact Nat.zero_le _
def nV (s:ByteArray):aJ2:=if jF s=0 then⟨0,nI s⟩else⟨jF s,⟨#[]⟩⟩
theorem nL {s:ByteArray} (h:¬jF s=0):nV s=⟨jF s,⟨#[]⟩⟩:=if_neg h
theorem uD {s:ByteArray} (h:jF s=0):nV s=⟨0,nI s⟩:=if_pos h
theorem gE (s:ByteArray):(nV s).text.size≤140737488351232:=by
  have:=sL s
  unfold nV
  split
  · show(nI s).size≤_;omega
  · exact Nat.zero_le _
theorem aB2 {s:ByteArray}{a b B:Nat} (h:s.size≤B):(ByteArray.extract s a b).size≤B:=by rw [ByteArray.size_extract];omega
end Go.Proofs.YtmejbfmhaoilmaaGreatDoor

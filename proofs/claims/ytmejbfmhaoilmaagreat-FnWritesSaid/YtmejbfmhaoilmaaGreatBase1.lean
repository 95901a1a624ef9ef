/- What is proved: short names of the rules that walks use most. No condition. -/
import Derived.Test.YtmejbfmhaoilmaaGreatBase0
import Derived.Tactics
import Derived.Lib.SlicesCompact
import Derived.Sort.Row
import Derived.Sort.Grow
import Derived.Lib.SplitLaws
import Derived.Lib.Join
namespace Go.Proofs.YtmejbfmhaoilmaaGreat
open Go Go.RowKit
set_option linter.unusedVariables false
theorem Get.g1 {α:Type}{q0 p:α}{l:List α}:Get (q0 :: p :: l) p:= .s .z
theorem Er.g1 {α:Type}{q0 p:α}{l:List α}:Er (q0 :: p :: l) p (q0 :: l):= .s .z
theorem fK.g1 {q0 p:Asn}{l:List Asn}:fK (q0 :: p :: l) p (q0 :: l):= .s .z
theorem Sb.g1 {q0:Asn}{l:List Asn}:Sb (q0 :: l) l:= .s .z
theorem mT.g1 {q0 u v:Value}{l:List Value}:mT (q0 :: u :: l) 1 v (q0 :: v :: l):= .s .z
theorem Get.g2 {α:Type}{q0 q1 p:α}{l:List α}:Get (q0 :: q1 :: p :: l) p:= .s (.s .z)
theorem Er.g2 {α:Type}{q0 q1 p:α}{l:List α}:Er (q0 :: q1 :: p :: l) p (q0 :: q1 :: l):= .s (.s .z)
theorem fK.g2 {q0 q1 p:Asn}{l:List Asn}:fK (q0 :: q1 :: p :: l) p (q0 :: q1 :: l):= .s (.s .z)
theorem Sb.g2 {q0 q1:Asn}{l:List Asn}:Sb (q0 :: q1 :: l) l:= .s (.s .z)
theorem mT.g2 {q0 q1 u v:Value}{l:List Value}:mT (q0 :: q1 :: u :: l) 2 v (q0 :: q1 :: v :: l):= .s (.s .z)
theorem Get.g3 {α:Type}{q0 q1 q2 p:α}{l:List α}:Get (q0 :: q1 :: q2 :: p :: l) p:= .s (.s (.s .z))
theorem Er.g3 {α:Type}{q0 q1 q2 p:α}{l:List α}:Er (q0 :: q1 :: q2 :: p :: l) p (q0 :: q1 :: q2 :: l):= .s (.s (.s .z))
theorem fK.g3 {q0 q1 q2 p:Asn}{l:List Asn}:fK (q0 :: q1 :: q2 :: p :: l) p (q0 :: q1 :: q2 :: l):= .s (.s (.s .z))
theorem Sb.g3 {q0 q1 q2:Asn}{l:List Asn}:Sb (q0 :: q1 :: q2 :: l) l:= .s (.s (.s .z))
theorem mT.g3 {q0 q1 q2 u v:Value}{l:List Value}:mT (q0 :: q1 :: q2 :: u :: l) 3 v (q0 :: q1 :: q2 :: v :: l):= .s (.s (.s .z))
theorem Get.g4 {α:Type}{q0 q1 q2 q3 p:α}{l:List α}:Get (q0 :: q1 :: q2 :: q3 :: p :: l) p:= .s (.s (.s (.s .z)))
theorem Er.g4 {α:Type}{q0 q1 q2 q3 p:α}{l:List α}:Er (q0 :: q1 :: q2 :: q3 :: p :: l) p (q0 :: q1 :: q2 :: q3 :: l):= .s (.s (.s (.s .z)))
theorem fK.g4 {q0 q1 q2 q3 p:Asn}{l:List Asn}:fK (q0 :: q1 :: q2 :: q3 :: p :: l) p (q0 :: q1 :: q2 :: q3 :: l):= .s (.s (.s (.s .z)))
theorem Sb.g4 {q0 q1 q2 q3:Asn}{l:List Asn}:Sb (q0 :: q1 :: q2 :: q3 :: l) l:= .s (.s (.s (.s .z)))
theorem mT.g4 {q0 q1 q2 q3 u v:Value}{l:List Value}:mT (q0 :: q1 :: q2 :: q3 :: u :: l) 4 v (q0 :: q1 :: q2 :: q3 :: v :: l):= .s (.s (.s (.s .z)))
theorem Get.g5 {α:Type}{q0 q1 q2 q3 q4 p:α}{l:List α}:Get (q0 :: q1 :: q2 :: q3 :: q4 :: p :: l) p:= .s (.s (.s (.s (.s .z))))
theorem Er.g5 {α:Type}{q0 q1 q2 q3 q4 p:α}{l:List α}:Er (q0 :: q1 :: q2 :: q3 :: q4 :: p :: l) p (q0 :: q1 :: q2 :: q3 :: q4 :: l):= .s (.s (.s (.s (.s .z))))
theorem fK.g5 {q0 q1 q2 q3 q4 p:Asn}{l:List Asn}:fK (q0 :: q1 :: q2 :: q3 :: q4 :: p :: l) p (q0 :: q1 :: q2 :: q3 :: q4 :: l):= .s (.s (.s (.s (.s .z))))
theorem Sb.g5 {q0 q1 q2 q3 q4:Asn}{l:List Asn}:Sb (q0 :: q1 :: q2 :: q3 :: q4 :: l) l:= .s (.s (.s (.s (.s .z))))
theorem mT.g5 {q0 q1 q2 q3 q4 u v:Value}{l:List Value}:mT (q0 :: q1 :: q2 :: q3 :: q4 :: u :: l) 5 v (q0 :: q1 :: q2 :: q3 :: q4 :: v :: l):= .s (.s (.s (.s (.s .z))))
theorem Get.g6 {α:Type}{q0 q1 q2 q3 q4 q5 p:α}{l:List α}:Get (q0 :: q1 :: q2 :: q3 :: q4 :: q5 :: p :: l) p:= .s (.s (.s (.s (.s (.s .z)))))
theorem Er.g6 {α:Type}{q0 q1 q2 q3 q4 q5 p:α}{l:List α}:Er (q0 :: q1 :: q2 :: q3 :: q4 :: q5 :: p :: l) p (q0 :: q1 :: q2 :: q3 :: q4 :: q5 :: l):= .s (.s (.s (.s (.s (.s .z)))))
theorem fK.g6 {q0 q1 q2 q3 q4 q5 p:Asn}{l:List Asn}:fK (q0 :: q1 :: q2 :: q3 :: q4 :: q5 :: p :: l) p (q0 :: q1 :: q2 :: q3 :: q4 :: q5 :: l):= .s (.s (.s (.s (.s (.s .z)))))
theorem Sb.g6 {q0 q1 q2 q3 q4 q5:Asn}{l:List Asn}:Sb (q0 :: q1 :: q2 :: q3 :: q4 :: q5 :: l) l:= .s (.s (.s (.s (.s (.s .z)))))
theorem mT.g6 {q0 q1 q2 q3 q4 q5 u v:Value}{l:List Value}:mT (q0 :: q1 :: q2 :: q3 :: q4 :: q5 :: u :: l) 6 v (q0 :: q1 :: q2 :: q3 :: q4 :: q5 :: v :: l):= .s (.s (.s (.s (.s (.s .z)))))
theorem Get.g7 {α:Type}{q0 q1 q2 q3 q4 q5 q6 p:α}{l:List α}:Get (q0 :: q1 :: q2 :: q3 :: q4 :: q5 :: q6 :: p :: l) p:= .s (.s (.s (.s (.s (.s (.s .z))))))
theorem Er.g7 {α:Type}{q0 q1 q2 q3 q4 q5 q6 p:α}{l:List α}:Er (q0 :: q1 :: q2 :: q3 :: q4 :: q5 :: q6 :: p :: l) p (q0 :: q1 :: q2 :: q3 :: q4 :: q5 :: q6 :: l):= .s (.s (.s (.s (.s (.s (.s .z))))))
theorem fK.g7 {q0 q1 q2 q3 q4 q5 q6 p:Asn}{l:List Asn}:fK (q0 :: q1 :: q2 :: q3 :: q4 :: q5 :: q6 :: p :: l) p (q0 :: q1 :: q2 :: q3 :: q4 :: q5 :: q6 :: l):= .s (.s (.s (.s (.s (.s (.s .z))))))
theorem Sb.g7 {q0 q1 q2 q3 q4 q5 q6:Asn}{l:List Asn}:Sb (q0 :: q1 :: q2 :: q3 :: q4 :: q5 :: q6 :: l) l:= .s (.s (.s (.s (.s (.s (.s .z))))))
theorem mT.g7 {q0 q1 q2 q3 q4 q5 q6 u v:Value}{l:List Value}:mT (q0 :: q1 :: q2 :: q3 :: q4 :: q5 :: q6 :: u :: l) 7 v (q0 :: q1 :: q2 :: q3 :: q4 :: q5 :: q6 :: v :: l):= .s (.s (.s (.s (.s (.s (.s .z))))))
theorem Get.g8 {α:Type}{q0 q1 q2 q3 q4 q5 q6 q7 p:α}{l:List α}:Get (q0 :: q1 :: q2 :: q3 :: q4 :: q5 :: q6 :: q7 :: p :: l) p:= .s (.s (.s (.s (.s (.s (.s (.s .z)))))))
theorem Er.g8 {α:Type}{q0 q1 q2 q3 q4 q5 q6 q7 p:α}{l:List α}:Er (q0 :: q1 :: q2 :: q3 :: q4 :: q5 :: q6 :: q7 :: p :: l) p (q0 :: q1 :: q2 :: q3 :: q4 :: q5 :: q6 :: q7 :: l):= .s (.s (.s (.s (.s (.s (.s (.s .z)))))))
theorem fK.g8 {q0 q1 q2 q3 q4 q5 q6 q7 p:Asn}{l:List Asn}:fK (q0 :: q1 :: q2 :: q3 :: q4 :: q5 :: q6 :: q7 :: p :: l) p (q0 :: q1 :: q2 :: q3 :: q4 :: q5 :: q6 :: q7 :: l):= .s (.s (.s (.s (.s (.s (.s (.s .z)))))))
theorem Sb.g8 {q0 q1 q2 q3 q4 q5 q6 q7:Asn}{l:List Asn}:Sb (q0 :: q1 :: q2 :: q3 :: q4 :: q5 :: q6 :: q7 :: l) l:= .s (.s (.s (.s (.s (.s (.s (.s .z)))))))
theorem mT.g8 {q0 q1 q2 q3 q4 q5 q6 q7 u v:Value}{l:List Value}:mT (q0 :: q1 :: q2 :: q3 :: q4 :: q5 :: q6 :: q7 :: u :: l) 8 v (q0 :: q1 :: q2 :: q3 :: q4 :: q5 :: q6 :: q7 :: v :: l):= .s (.s (.s (.s (.s (.s (.s (.s .z)))))))
theorem Get.g9 {α:Type}{q0 q1 q2 q3 q4 q5 q6 q7 q8 p:α}{l:List α}:Get (q0 :: q1 :: q2 :: q3 :: q4 :: q5 :: q6 :: q7 :: q8 :: p :: l) p:= .s (.s (.s (.s (.s (.s (.s (.s (.s .z))))))))
theorem Er.g9 {α:Type}{q0 q1 q2 q3 q4 q5 q6 q7 q8 p:α}{l:List α}:Er (q0 :: q1 :: q2 :: q3 :: q4 :: q5 :: q6 :: q7 :: q8 :: p :: l) p (q0 :: q1 :: q2 :: q3 :: q4 :: q5 :: q6 :: q7 :: q8 :: l):= .s (.s (.s (.s (.s (.s (.s (.s (.s .z))))))))
theorem fK.g9 {q0 q1 q2 q3 q4 q5 q6 q7 q8 p:Asn}{l:List Asn}:fK (q0 :: q1 :: q2 :: q3 :: q4 :: q5 :: q6 :: q7 :: q8 :: p :: l) p (q0 :: q1 :: q2 :: q3 :: q4 :: q5 :: q6 :: q7 :: q8 :: l):= .s (.s (.s (.s (.s (.s (.s (.s (.s .z))))))))
theorem Sb.g9 {q0 q1 q2 q3 q4 q5 q6 q7 q8:Asn}{l:List Asn}:Sb (q0 :: q1 :: q2 :: q3 :: q4 :: q5 :: q6 :: q7 :: q8 :: l) l:= .s (.s (.s (.s (.s (.s (.s (.s (.s .z))))))))
theorem Get.g10 {α:Type}{q0 q1 q2 q3 q4 q5 q6 q7 q8 q9 p:α}{l:List α}:Get (q0 :: q1 :: q2 :: q3 :: q4 :: q5 :: q6 :: q7 :: q8 :: q9 :: p :: l) p:= .s (.s (.s (.s (.s (.s (.s (.s (.s (.s .z)))))))))
theorem Er.g10 {α:Type}{q0 q1 q2 q3 q4 q5 q6 q7 q8 q9 p:α}{l:List α}:Er (q0 :: q1 :: q2 :: q3 :: q4 :: q5 :: q6 :: q7 :: q8 :: q9 :: p :: l) p (q0 :: q1 :: q2 :: q3 :: q4 :: q5 :: q6 :: q7 :: q8 :: q9 :: l):= .s (.s (.s (.s (.s (.s (.s (.s (.s (.s .z)))))))))
theorem fK.g10 {q0 q1 q2 q3 q4 q5 q6 q7 q8 q9 p:Asn}{l:List Asn}:fK (q0 :: q1 :: q2 :: q3 :: q4 :: q5 :: q6 :: q7 :: q8 :: q9 :: p :: l) p (q0 :: q1 :: q2 :: q3 :: q4 :: q5 :: q6 :: q7 :: q8 :: q9 :: l):= .s (.s (.s (.s (.s (.s (.s (.s (.s (.s .z)))))))))
theorem Sb.g10 {q0 q1 q2 q3 q4 q5 q6 q7 q8 q9:Asn}{l:List Asn}:Sb (q0 :: q1 :: q2 :: q3 :: q4 :: q5 :: q6 :: q7 :: q8 :: q9 :: l) l:= .s (.s (.s (.s (.s (.s (.s (.s (.s (.s .z)))))))))
theorem Get.g11 {α:Type}{q0 q1 q2 q3 q4 q5 q6 q7 q8 q9 q10 p:α}{l:List α}:Get (q0 :: q1 :: q2 :: q3 :: q4 :: q5 :: q6 :: q7 :: q8 :: q9 :: q10 :: p :: l) p:= .s (.s (.s (.s (.s (.s (.s (.s (.s (.s (.s .z))))))))))
theorem Er.g11 {α:Type}{q0 q1 q2 q3 q4 q5 q6 q7 q8 q9 q10 p:α}{l:List α}:Er (q0 :: q1 :: q2 :: q3 :: q4 :: q5 :: q6 :: q7 :: q8 :: q9 :: q10 :: p :: l) p (q0 :: q1 :: q2 :: q3 :: q4 :: q5 :: q6 :: q7 :: q8 :: q9 :: q10 :: l):= .s (.s (.s (.s (.s (.s (.s (.s (.s (.s (.s .z))))))))))
theorem fK.g11 {q0 q1 q2 q3 q4 q5 q6 q7 q8 q9 q10 p:Asn}{l:List Asn}:fK (q0 :: q1 :: q2 :: q3 :: q4 :: q5 :: q6 :: q7 :: q8 :: q9 :: q10 :: p :: l) p (q0 :: q1 :: q2 :: q3 :: q4 :: q5 :: q6 :: q7 :: q8 :: q9 :: q10 :: l):= .s (.s (.s (.s (.s (.s (.s (.s (.s (.s (.s .z))))))))))
theorem Sb.g11 {q0 q1 q2 q3 q4 q5 q6 q7 q8 q9 q10:Asn}{l:List Asn}:Sb (q0 :: q1 :: q2 :: q3 :: q4 :: q5 :: q6 :: q7 :: q8 :: q9 :: q10 :: l) l:= .s (.s (.s (.s (.s (.s (.s (.s (.s (.s (.s .z))))))))))
theorem Get.g12 {α:Type}{q0 q1 q2 q3 q4 q5 q6 q7 q8 q9 q10 q11 p:α}{l:List α}:Get (q0 :: q1 :: q2 :: q3 :: q4 :: q5 :: q6 :: q7 :: q8 :: q9 :: q10 :: q11 :: p :: l) p:= .s (.s (.s (.s (.s (.s (.s (.s (.s (.s (.s (.s .z)))))))))))
theorem Er.g12 {α:Type}{q0 q1 q2 q3 q4 q5 q6 q7 q8 q9 q10 q11 p:α}{l:List α}:Er (q0 :: q1 :: q2 :: q3 :: q4 :: q5 :: q6 :: q7 :: q8 :: q9 :: q10 :: q11 :: p :: l) p (q0 :: q1 :: q2 :: q3 :: q4 :: q5 :: q6 :: q7 :: q8 :: q9 :: q10 :: q11 :: l):= .s (.s (.s (.s (.s (.s (.s (.s (.s (.s (.s (.s .z)))))))))))
theorem fK.g12 {q0 q1 q2 q3 q4 q5 q6 q7 q8 q9 q10 q11 p:Asn}{l:List Asn}:fK (q0 :: q1 :: q2 :: q3 :: q4 :: q5 :: q6 :: q7 :: q8 :: q9 :: q10 :: q11 :: p :: l) p (q0 :: q1 :: q2 :: q3 :: q4 :: q5 :: q6 :: q7 :: q8 :: q9 :: q10 :: q11 :: l):= .s (.s (.s (.s (.s (.s (.s (.s (.s (.s (.s (.s .z)))))))))))
theorem Sb.g12 {q0 q1 q2 q3 q4 q5 q6 q7 q8 q9 q10 q11:Asn}{l:List Asn}:Sb (q0 :: q1 :: q2 :: q3 :: q4 :: q5 :: q6 :: q7 :: q8 :: q9 :: q10 :: q11 :: l) l:= .s (.s (.s (.s (.s (.s (.s (.s (.s (.s (.s (.s .z)))))))))))
theorem Get.g13 {α:Type}{q0 q1 q2 q3 q4 q5 q6 q7 q8 q9 q10 q11 q12 p:α}{l:List α}:Get (q0 :: q1 :: q2 :: q3 :: q4 :: q5 :: q6 :: q7 :: q8 :: q9 :: q10 :: q11 :: q12 :: p :: l) p:= .s (.s (.s (.s (.s (.s (.s (.s (.s (.s (.s (.s (.s .z))))))))))))
theorem Er.g13 {α:Type}{q0 q1 q2 q3 q4 q5 q6 q7 q8 q9 q10 q11 q12 p:α}{l:List α}:Er (q0 :: q1 :: q2 :: q3 :: q4 :: q5 :: q6 :: q7 :: q8 :: q9 :: q10 :: q11 :: q12 :: p :: l) p (q0 :: q1 :: q2 :: q3 :: q4 :: q5 :: q6 :: q7 :: q8 :: q9 :: q10 :: q11 :: q12 :: l):= .s (.s (.s (.s (.s (.s (.s (.s (.s (.s (.s (.s (.s .z))))))))))))
theorem fK.g13 {q0 q1 q2 q3 q4 q5 q6 q7 q8 q9 q10 q11 q12 p:Asn}{l:List Asn}:fK (q0 :: q1 :: q2 :: q3 :: q4 :: q5 :: q6 :: q7 :: q8 :: q9 :: q10 :: q11 :: q12 :: p :: l) p (q0 :: q1 :: q2 :: q3 :: q4 :: q5 :: q6 :: q7 :: q8 :: q9 :: q10 :: q11 :: q12 :: l):= .s (.s (.s (.s (.s (.s (.s (.s (.s (.s (.s (.s (.s .z))))))))))))
theorem Sb.g13 {q0 q1 q2 q3 q4 q5 q6 q7 q8 q9 q10 q11 q12:Asn}{l:List Asn}:Sb (q0 :: q1 :: q2 :: q3 :: q4 :: q5 :: q6 :: q7 :: q8 :: q9 :: q10 :: q11 :: q12 :: l) l:= .s (.s (.s (.s (.s (.s (.s (.s (.s (.s (.s (.s (.s .z))))))))))))
theorem Get.g14 {α:Type}{q0 q1 q2 q3 q4 q5 q6 q7 q8 q9 q10 q11 q12 q13 p:α}{l:List α}:Get (q0 :: q1 :: q2 :: q3 :: q4 :: q5 :: q6 :: q7 :: q8 :: q9 :: q10 :: q11 :: q12 :: q13 :: p :: l) p:= .s (.s (.s (.s (.s (.s (.s (.s (.s (.s (.s (.s (.s (.s .z)))))))))))))
theorem Er.g14 {α:Type}{q0 q1 q2 q3 q4 q5 q6 q7 q8 q9 q10 q11 q12 q13 p:α}{l:List α}:Er (q0 :: q1 :: q2 :: q3 :: q4 :: q5 :: q6 :: q7 :: q8 :: q9 :: q10 :: q11 :: q12 :: q13 :: p :: l) p (q0 :: q1 :: q2 :: q3 :: q4 :: q5 :: q6 :: q7 :: q8 :: q9 :: q10 :: q11 :: q12 :: q13 :: l):= .s (.s (.s (.s (.s (.s (.s (.s (.s (.s (.s (.s (.s (.s .z)))))))))))))
theorem fK.g14 {q0 q1 q2 q3 q4 q5 q6 q7 q8 q9 q10 q11 q12 q13 p:Asn}{l:List Asn}:fK (q0 :: q1 :: q2 :: q3 :: q4 :: q5 :: q6 :: q7 :: q8 :: q9 :: q10 :: q11 :: q12 :: q13 :: p :: l) p (q0 :: q1 :: q2 :: q3 :: q4 :: q5 :: q6 :: q7 :: q8 :: q9 :: q10 :: q11 :: q12 :: q13 :: l):= .s (.s (.s (.s (.s (.s (.s (.s (.s (.s (.s (.s (.s (.s .z)))))))))))))
theorem Sb.g14 {q0 q1 q2 q3 q4 q5 q6 q7 q8 q9 q10 q11 q12 q13:Asn}{l:List Asn}:Sb (q0 :: q1 :: q2 :: q3 :: q4 :: q5 :: q6 :: q7 :: q8 :: q9 :: q10 :: q11 :: q12 :: q13 :: l) l:= .s (.s (.s (.s (.s (.s (.s (.s (.s (.s (.s (.s (.s (.s .z)))))))))))))
theorem Get.g15 {α:Type}{q0 q1 q2 q3 q4 q5 q6 q7 q8 q9 q10 q11 q12 q13 q14 p:α}{l:List α}:Get (q0 :: q1 :: q2 :: q3 :: q4 :: q5 :: q6 :: q7 :: q8 :: q9 :: q10 :: q11 :: q12 :: q13 :: q14 :: p :: l) p:= .s (.s (.s (.s (.s (.s (.s (.s (.s (.s (.s (.s (.s (.s (.s .z))))))))))))))
theorem Er.g15 {α:Type}{q0 q1 q2 q3 q4 q5 q6 q7 q8 q9 q10 q11 q12 q13 q14 p:α}{l:List α}:Er (q0 :: q1 :: q2 :: q3 :: q4 :: q5 :: q6 :: q7 :: q8 :: q9 :: q10 :: q11 :: q12 :: q13 :: q14 :: p :: l) p (q0 :: q1 :: q2 :: q3 :: q4 :: q5 :: q6 :: q7 :: q8 :: q9 :: q10 :: q11 :: q12 :: q13 :: q14 :: l):= .s (.s (.s (.s (.s (.s (.s (.s (.s (.s (.s (.s (.s (.s (.s .z))))))))))))))
theorem fK.g15 {q0 q1 q2 q3 q4 q5 q6 q7 q8 q9 q10 q11 q12 q13 q14 p:Asn}{l:List Asn}:fK (q0 :: q1 :: q2 :: q3 :: q4 :: q5 :: q6 :: q7 :: q8 :: q9 :: q10 :: q11 :: q12 :: q13 :: q14 :: p :: l) p (q0 :: q1 :: q2 :: q3 :: q4 :: q5 :: q6 :: q7 :: q8 :: q9 :: q10 :: q11 :: q12 :: q13 :: q14 :: l):= .s (.s (.s (.s (.s (.s (.s (.s (.s (.s (.s (.s (.s (.s (.s .z))))))))))))))
theorem Sb.g15 {q0 q1 q2 q3 q4 q5 q6 q7 q8 q9 q10 q11 q12 q13 q14:Asn}{l:List Asn}:Sb (q0 :: q1 :: q2 :: q3 :: q4 :: q5 :: q6 :: q7 :: q8 :: q9 :: q10 :: q11 :: q12 :: q13 :: q14 :: l) l:= .s (.s (.s (.s (.s (.s (.s (.s (.s (.s (.s (.s (.s (.s (.s .z))))))))))))))
theorem Get.g16 {α:Type}{q0 q1 q2 q3 q4 q5 q6 q7 q8 q9 q10 q11 q12 q13 q14 q15 p:α}{l:List α}:Get (q0 :: q1 :: q2 :: q3 :: q4 :: q5 :: q6 :: q7 :: q8 :: q9 :: q10 :: q11 :: q12 :: q13 :: q14 :: q15 :: p :: l) p:= .s (.s (.s (.s (.s (.s (.s (.s (.s (.s (.s (.s (.s (.s (.s (.s .z)))))))))))))))
theorem Er.g16 {α:Type}{q0 q1 q2 q3 q4 q5 q6 q7 q8 q9 q10 q11 q12 q13 q14 q15 p:α}{l:List α}:Er (q0 :: q1 :: q2 :: q3 :: q4 :: q5 :: q6 :: q7 :: q8 :: q9 :: q10 :: q11 :: q12 :: q13 :: q14 :: q15 :: p :: l) p (q0 :: q1 :: q2 :: q3 :: q4 :: q5 :: q6 :: q7 :: q8 :: q9 :: q10 :: q11 :: q12 :: q13 :: q14 :: q15 :: l):= .s (.s (.s (.s (.s (.s (.s (.s (.s (.s (.s (.s (.s (.s (.s (.s .z)))))))))))))))
theorem fK.g16 {q0 q1 q2 q3 q4 q5 q6 q7 q8 q9 q10 q11 q12 q13 q14 q15 p:Asn}{l:List Asn}:fK (q0 :: q1 :: q2 :: q3 :: q4 :: q5 :: q6 :: q7 :: q8 :: q9 :: q10 :: q11 :: q12 :: q13 :: q14 :: q15 :: p :: l) p (q0 :: q1 :: q2 :: q3 :: q4 :: q5 :: q6 :: q7 :: q8 :: q9 :: q10 :: q11 :: q12 :: q13 :: q14 :: q15 :: l):= .s (.s (.s (.s (.s (.s (.s (.s (.s (.s (.s (.s (.s (.s (.s (.s .z)))))))))))))))
theorem Sb.g16 {q0 q1 q2 q3 q4 q5 q6 q7 q8 q9 q10 q11 q12 q13 q14 q15:Asn}{l:List Asn}:Sb (q0 :: q1 :: q2 :: q3 :: q4 :: q5 :: q6 :: q7 :: q8 :: q9 :: q10 :: q11 :: q12 :: q13 :: q14 :: q15 :: l) l:= .s (.s (.s (.s (.s (.s (.s (.s (.s (.s (.s (.s (.s (.s (.s (.s .z)))))))))))))))
section
variable {N:Nat}{w0:World}{S0:Bs}{F:Act→World→Prop}{T:eY}{l l':List Asn}{P:Program}{Q:Exit→Act→World→Prop}{o:Oper}{ops:Array Oper}{rest:List Oper}{d:Nat}
theorem aAn {v : Value} : ∀ {l : List Value} {n : Nat}, n < l.length → mT l n v (l.set n v)
  | _ :: _,0,_=> .z
  | _ :: _,n+1,h=> .s (aAn (by simpa using h))
  | [],_,h=>by simp at h
theorem aEg : ∀ {pre cs fl : List Value}, fl.length = cs.length → tO (pre ++ fl) pre.length cs (pre ++ cs)
  | pre,[],[],_=>by simpa using tO.n
  | pre,c :: cs,f :: fl,h=>by
    have h1:mT (pre++f :: fl) pre.length c ((pre++ [c])++fl):=by
      have:=aAn (v:=c) (l:=pre++f :: fl) (n:=pre.length) (by simp)
      simpa [List.set_append] using this
    have h2:=aEg (pre:=pre++ [c]) (cs:=cs) (fl:=fl) (by simpa using h)
    refine .c h1 ?_
    simpa using h2
  | _,[],_ :: _,h=>by simp at h
  | _,_ :: _,[],h=>by simp at h
theorem aF3 {fl cs:List Value} (h:cs.length=fl.length):tO fl 0 cs cs:=by simpa using aEg (pre:= []) h.symm
theorem qW {x:Operand}{t:TypeId}{g e sz c:Nat}{fl:List Value} (ho:o.op= .load t x) (hg:eO P t true) (hx:Val T x (.pointer (some ⟨g,0,none⟩))) (ht:fK l (bW g e sz c fl) l') (hi:(P.info? t).map (·.size)=some fl.length):eU P o T (WS w0 S0 l) (.agg fl.toArray):=
  lY ho hg hi hx (WS.v ht fun _ _ h=>h)
theorem qE {x:Operand}{t:TypeId}{B:Addr}{ecs:List Value} (ho:o.op= .load t x) (hg:eO P t true) (hx:Val T x (.pointer (some B))) (hF:FF w0 S0 B.block) (hc:∀(i:Nat) (u:Value),ecs[i]? =some u→w0.cell? (B.add i)=some u) (hi:(P.info? t).map (·.size)=some ecs.length):eU P o T (WS w0 S0 l) (.agg ecs.toArray):=
  lY ho hg hi hx (WS.ab hF hc)
theorem esW {p x:Operand}{t:TypeId}{g e sz c:Nat}{fl cs:List Value} (ho:o.op= .store t p x) (hp:Val T p (.pointer (some ⟨g,0,none⟩))) (hx:Val T x (.agg cs.toArray)) (hT:fK l (bW g e sz c fl) l') (hi:(P.info? t).map (·.size)=some cs.length) (h1:cs.all (·.oneCell')=true) (hl:Nat.beq cs.length fl.length=true):aFa P o T w0 S0 l (bW g e sz c cs :: l'):=
  qM (off:=0) ho hi (by rw [jE];exact hp) hx (by rfl) (oM h1) hT (by have:=Nat.eq_of_beq_eq_true hl;omega) (aF3 (Nat.eq_of_beq_eq_true hl))
theorem es1 {p x : Operand} {t : TypeId} {v : Value} {g e sz c off : Nat} {fl fl' : List Value} (ho : o.op = .store t p x) (hi : (P.info? t).map (·.size) = some 1) (hp : Val T p (.pointer (some ((⟨g, 0, none⟩ : Addr).add off)))) (hx : Val T x v) (hv : v.cells.toList = [v])
    (h1:v.oneCell'=true) (hT:fK l (bW g e sz c fl) l') (hb:Nat.blt off fl.length=true) (hq:mT fl off v fl'):aFa P o T w0 S0 l (bW g e sz c fl' :: l'):=
  qM (cs:= [v]) ho hi hp hx hv (fun u hu=>by obtain rfl:=List.mem_singleton.1 hu;exact h1) hT (Nat.le_of_ble_eq_true hb) (.c hq .n)
theorem dF {fn:Func}{s ty g e sz c:Nat}{cs:List Value} (hr:fn.results= #[.cell s ty]) (h:Get T (s,.pointer (some ⟨g,0,none⟩))) (hg:eO P ty true) (ht:fK l (bW g e sz c cs) l') (hi:(P.info? ty).map (·.size)=some cs.length):
    ∀(a:Act) (w:World),Holds T a→WS w0 S0 l w→(results fn a.tmps).run P w= .ok (.agg cs.toArray) w:=aK5 hr h hg hi (WS.v ht fun _ _ h=>h)
theorem pv0:∀a:Act,Holds T a→((#[]:Array (Nat×Operand)).map fun(i,x)=>(i,a.eval x))=([]:List (Nat×Value)).toArray:=fun _ _=>by simp
theorem pv1 {i:Nat}{x:Operand}{v:Value} (h:Val T x v):∀a:Act,Holds T a→((#[(i,x)]:Array (Nat×Operand)).map fun(i,x)=>(i,a.eval x))= [(i,v)].toArray:=fun a ha=>by simp [h a ha]
theorem pv2 {i j:Nat}{x y:Operand}{v u:Value} (h:Val T x v) (k:Val T y u):∀a:Act,Holds T a→((#[(i,x),(j,y)]:Array (Nat×Operand)).map fun(i,x)=>(i,a.eval x))= [(i,v),(j,u)].toArray:=fun a ha=>by simp [h a ha,k a ha]
theorem pv3 {i j m:Nat}{x y z:Operand}{v u r:Value} (h:Val T x v) (k:Val T y u) (q:Val T z r):∀a:Act,Holds T a→((#[(i,x),(j,y),(m,z)]:Array (Nat×Operand)).map fun(i,x)=>(i,a.eval x))= [(i,v),(j,u),(m,r)].toArray:=fun a ha=>by simp [h a ha,k a ha,q a ha]
theorem pv4 {i j m n:Nat}{x y z p:Operand}{v u r s:Value} (h:Val T x v) (k:Val T y u) (q:Val T z r) (q':Val T p s):∀a:Act,Holds T a→((#[(i,x),(j,y),(m,z),(n,p)]:Array (Nat×Operand)).map fun(i,x)=>(i,a.eval x))= [(i,v),(j,u),(m,r),(n,s)].toArray:=fun a ha=>by simp [h a ha,k a ha,q a ha,q' a ha]
theorem Y.mv {s:Nat}{v:Value} (hk:okd o N T=some d) (h:Get T (s,v)) (k:Y N w0 S0 (wpList P ops Q rest) ((d,v) :: T) l) (ho:o.op= .move (.tmp s):=by exact rfl):Y N w0 S0 (wpList P ops Q (o :: rest)) T l:=Y.ql hk (aN ho (.t h)) k
theorem Y.as {s:Nat}{v:Value} (hk:okd o N T=some d) (h:Get T (s,v)) (k:Y N w0 S0 (wpList P ops Q rest) ((d,v) :: T) l) (ho:o.op= .assign (.tmp s):=by exact rfl):Y N w0 S0 (wpList P ops Q (o :: rest)) T l:=Y.ql hk (aA ho (.t h)) k
theorem Y.fa {s : Nat} {t : TypeId} {f off : Nat} {ad : Addr} (hk : okd o N T = some d) (h : Get T (s, .pointer (some ad))) (hs : ∀ (ad : Addr) (w : World), (Instr.fieldAt t (.pointer (some ad)) f).run P w = .ok (.pointer (some (ad.add off))) w)
    (k:Y N w0 S0 (wpList P ops Q rest) ((d,.pointer (some (ad.add off))) :: T) l) (ho:o.op= .fieldAddr t (.tmp s) f:=by exact rfl):Y N w0 S0 (wpList P ops Q (o :: rest)) T l:=Y.ql hk (aS ho (.t h) (hs ad)) k
theorem Y.ld {s : Nat} {t : TypeId} {g e sz c i : Nat} {fl : List Value} {v : Value} (hk : okd o N T = some d) (hg : eO P t false) (h : Get T (s, .pointer (some ((⟨g, 0, none⟩ : Addr).add i)))) (ht : fK l (bW g e sz c fl) l')
    (k:Y N w0 S0 (wpList P ops Q rest) ((d,v) :: T) l) (ho:o.op= .load t (.tmp s):=by exact rfl) (hv:fl[i]? =some v:=by exact rfl):Y N w0 S0 (wpList P ops Q (o :: rest)) T l:=Y.ql hk (aP ho hg (.t h) (WS.h ht hv)) k
theorem Y.le {s : Nat} {t : TypeId} {B : Addr} {ecs : List Value} {i : Nat} {v : Value} (hk : okd o N T = some d) (hg : eO P t false) (h : Get T (s, .pointer (some (B.add i)))) (hF : FF w0 S0 B.block) (hc : ∀ (i : Nat) (u : Value), ecs[i]? = some u → w0.cell? (B.add i) = some u)
    (k:Y N w0 S0 (wpList P ops Q rest) ((d,v) :: T) l) (ho:o.op= .load t (.tmp s):=by exact rfl) (hv:ecs[i]? =some v:=by exact rfl):Y N w0 S0 (wpList P ops Q (o :: rest)) T l:=Y.ql hk (aP ho hg (.t h) (WS.el hF hc hv)) k
theorem xQ {d:Nat} (h:okd o N T=some d):o.guard=none∧o.dst=some d∧d<N∧pR d T=true:=by
  unfold okd at h
  cases hd:o.dst with
  | none=>rw [hd] at h;cases h
  | some d'=>
    rw [hd] at h
    simp only at h
    cases hc:(o.guard.isNone && Nat.blt d' N && pR d' T) with
    | false=>rw [hc] at h;cases h
    | true=>
      rw [hc] at h
      obtain rfl:=Option.some.inj h
      simp only [Bool.and_eq_true,Option.isNone_iff_eq_none] at hc
      exact⟨hc.1.1,rfl,Nat.le_of_ble_eq_true hc.1.2,hc.2⟩
theorem Y.cl {f : FuncId} {fn : Func} {as_ : Array Operand} {ts : Array TypeId} {args : Array Value} {lc lr : List Asn} {R : Value → List Asn → Prop} (hk : okd o N T = some d) (ho : o.op = .call { callee := .value (.func f), args := as_, argTypes := ts }) (hf : P.funcs[f]? = some fn) (hb : fn.body.isSome = true) (hn : (fn.name == "runtime.NumGoroutine") = false)
    (ha:∀a:Act,Holds T a→as_.map a.eval=args) (hT:mC l lc lr) (ht:∀w S1,cH lc w S1→Tr w0 S0 w S1 lr→Calls P f args w (aJ w S1 R)) (h:∀v l',R v l'→Y N w0 S0 (wpList P ops Q rest) ((d,v) :: T) (l'++lr)):Y N w0 S0 (wpList P ops Q (o :: rest)) T l:=by
  obtain⟨h1,h2,h3,h4⟩:=xQ hk
  exact Y.call (aE h1) h2 h3 h4 (bG ho hf hb hn ha) hT ht h
theorem Y.el {R:Value→List Asn→Prop} (hk:okd o N T=some d) (he:Eff P o T w0 S0 l R) (h:∀v l',R v l'→Y N w0 S0 (wpList P ops Q rest) ((d,v) :: T) l'):Y N w0 S0 (wpList P ops Q (o :: rest)) T l:=by
  obtain⟨h1,h2,h3,h4⟩:=xQ hk
  exact Y.e (aE h1) h2 h3 h4 he h
theorem Y.dk {K : Act → World → Prop} {last i : Nat} {lk : List Asn} {r : List (Nat × Bool)} {v : Value} (ho : ops[i]? = some o) (hk : okd o N T = some d) (hs : Sb l lk) (hq : eU P o T (WS w0 S0 lk) v)
    (h:Y N w0 S0 (iS P ops (NoPanic Q) (WS w0 S0 lk) last K r) ((d,v) :: T) l):Y N w0 S0 (iS P ops (NoPanic Q) (WS w0 S0 lk) last K ((i,true) :: r)) T l:=by
  obtain⟨h1,h2,h3,h4⟩:=xQ hk
  exact Y.dq ho h1 h2 h3 h4 hs hq h
theorem Y.dm {K:Act→World→Prop}{last i:Nat}{lk:List Asn}{r:List (Nat×Bool)}{s:Nat}{v:Value} (hi:ops[i]? =some o) (hk:okd o N T=some d) (hs:Sb l lk) (h:Get T (s,v)) (k:Y N w0 S0 (iS P ops (NoPanic Q) (WS w0 S0 lk) last K r) ((d,v) :: T) l) (ho:o.op= .move (.tmp s):=by exact rfl):Y N w0 S0 (iS P ops (NoPanic Q) (WS w0 S0 lk) last K ((i,true) :: r)) T l:=Y.dk hi hk hs (aN ho (.t h)) k
theorem Y.df {K : Act → World → Prop} {last i : Nat} {lk : List Asn} {r : List (Nat × Bool)} {s : Nat} {t : TypeId} {f off : Nat} {ad : Addr} (hi : ops[i]? = some o) (hk : okd o N T = some d) (hs : Sb l lk) (h : Get T (s, .pointer (some ad))) (hf : ∀ (ad : Addr) (w : World), (Instr.fieldAt t (.pointer (some ad)) f).run P w = .ok (.pointer (some (ad.add off))) w)
    (k:Y N w0 S0 (iS P ops (NoPanic Q) (WS w0 S0 lk) last K r) ((d,.pointer (some (ad.add off))) :: T) l) (ho:o.op= .fieldAddr t (.tmp s) f:=by exact rfl):Y N w0 S0 (iS P ops (NoPanic Q) (WS w0 S0 lk) last K ((i,true) :: r)) T l:=Y.dk hi hk hs (aS ho (.t h) (hf ad)) k
theorem Y.dl {K : Act → World → Prop} {last i : Nat} {lk : List Asn} {r : List (Nat × Bool)} {s : Nat} {t : TypeId} {g e sz c j : Nat} {fl : List Value} {v : Value} {lr : List Asn} (hi : ops[i]? = some o) (hk : okd o N T = some d) (hs : Sb l lk) (hg : eO P t false) (h : Get T (s, .pointer (some ((⟨g, 0, none⟩ : Addr).add j)))) (ht : fK lk (bW g e sz c fl) lr)
    (k:Y N w0 S0 (iS P ops (NoPanic Q) (WS w0 S0 lk) last K r) ((d,v) :: T) l) (ho:o.op= .load t (.tmp s):=by exact rfl) (hv:fl[j]? =some v:=by exact rfl):Y N w0 S0 (iS P ops (NoPanic Q) (WS w0 S0 lk) last K ((i,true) :: r)) T l:=Y.dk hi hk hs (aP ho hg (.t h) (WS.h ht hv)) k
theorem Y.de {K : Act → World → Prop} {last i : Nat} {lk : List Asn} {r : List (Nat × Bool)} {s : Nat} {t : TypeId} {B : Addr} {ecs : List Value} {j : Nat} {v : Value} (hi : ops[i]? = some o) (hk : okd o N T = some d) (hs : Sb l lk) (hg : eO P t false) (h : Get T (s, .pointer (some (B.add j)))) (hF : FF w0 S0 B.block) (hc : ∀ (i : Nat) (u : Value), ecs[i]? = some u → w0.cell? (B.add i) = some u)
    (k:Y N w0 S0 (iS P ops (NoPanic Q) (WS w0 S0 lk) last K r) ((d,v) :: T) l) (ho:o.op= .load t (.tmp s):=by exact rfl) (hv:ecs[j]? =some v:=by exact rfl):Y N w0 S0 (iS P ops (NoPanic Q) (WS w0 S0 lk) last K ((i,true) :: r)) T l:=Y.dk hi hk hs (aP ho hg (.t h) (WS.el hF hc hv)) k
theorem Y.dn {K:Act→World→Prop}{last i:Nat}{lk:List Asn}{r:List (Nat×Bool)}{s:Nat}{ad:Addr} (hi:ops[i]? =some o) (hk:okd o N T=some d) (hs:Sb l lk) (h:Get T (s,.pointer (some ad))) (k:Y N w0 S0 (iS P ops (NoPanic Q) (WS w0 S0 lk) last K r) ((d,.pointer (some ad)) :: T) l) (ho:o.op= .nilCheck (.tmp s):=by exact rfl):Y N w0 S0 (iS P ops (NoPanic Q) (WS w0 S0 lk) last K ((i,true) :: r)) T l:=Y.dk hi hk hs (eP ho (.t h)) k
theorem Y.nc {s:Nat}{ad:Addr} (hk:okd o N T=some d) (h:Get T (s,.pointer (some ad))) (k:Y N w0 S0 (wpList P ops Q rest) ((d,.pointer (some ad)) :: T) l) (ho:o.op= .nilCheck (.tmp s):=by exact rfl):Y N w0 S0 (wpList P ops Q (o :: rest)) T l:=Y.ql hk (eP ho (.t h)) k
theorem Y.nt {K:Act→World→Prop} (h:Y N w0 S0 K T l):Y N w0 S0 (wpList P ops (Exit.then K Q) []) T l:=Y.nil (Y.g h)
def qs (i n:Nat):List (Nat×Bool):=(List.range n).map fun k=>(i+k,true)
theorem Y.qg {j t:Nat}{b:Bool}{v:Value} (hg:o.guard=some (j,b)) (hj:(ops[j]?).bind (·.dst)=some t) (ht:Get T (t,.bool b)) (hd:o.dst=some d) (hN:Nat.blt d N=true) (hf:pR d T=true) (hq:eU P o T (WS w0 S0 l) v) (h:Y N w0 S0 (wpList P ops Q rest) ((d,v) :: T) l):Y N w0 S0 (wpList P ops Q (o :: rest)) T l:=
  Y.q (eR hg hj ht) hd (Nat.le_of_ble_eq_true hN) hf hq h
theorem Y.dr {lk : List Asn} {id : Nat} {os : List Oper} (hl : Sb l lk) (last : Nat) (hm : P.follows .mixedOrders = true)
    (h:Y N w0 S0 (wpL P .any os.toArray (NoPanic Q) (WS w0 S0 lk) last os.length (Array.replicate os.length false)) T l):Y N w0 S0 ((Code.region id os.toArray true).wp P Q) T l:=Y.a1 lk last hm h
def aI0 (sch:List (Nat×Bool)) (a:Array Bool):Array Bool:=sch.foldl (fun a p=>a.setIfInBounds p.1 true) a
theorem Y.sc {last : Nat} {lk : List Asn} {md : Region.Mode} (sch : List (Nat × Bool)) {m : Nat} {listed : Array Bool} (hc : (Nat.ble sch.length m && aI8 md ops last sch listed (aI0 sch listed)) = true)
    (h:Y N w0 S0 (iS P ops (NoPanic Q) (WS w0 S0 lk) last (wpL P md ops (NoPanic Q) (WS w0 S0 lk) last (m - sch.length) (aI0 sch listed)) sch) T l):Y N w0 S0 (wpL P md ops (NoPanic Q) (WS w0 S0 lk) last m listed) T l:=by
  simp only [Bool.and_eq_true] at hc
  exact Y.aw sch (m - sch.length) _ (by have:=Nat.le_of_ble_eq_true hc.1;omega) hc.2 h
end
theorem Y.ax {N : Nat} {w0 : World} {S0 : Bs} {T : eY} {l : List Asn} {P : Program} {Q : Exit → Act → World → Prop} {x y : Code} {γ : Type} (Tm : γ → eY) (lm : γ → List Asn) (φ : γ → Prop)
    (hx:Y N w0 S0 (x.wp P (Exit.then (fun a w=>a.defers= []∧a.tmps.size=N∧∃g',φ g'∧Holds (Tm g') a∧WS w0 S0 (lm g') w) Q)) T l) (hy:∀g,φ g→Y N w0 S0 (y.wp P Q) (Tm g) (lm g)):Y N w0 S0 ((Code.seq x y).wp P Q) T l:=by
  refine Y.seq fun a w h1 h2 h3 h4=> ?_
  refine Code.wp_mono (fun e a' w' h=> ?_) (hx a w h1 h2 h3 h4)
  cases e with
  | normal=>obtain⟨k1,k2,g,hg,k3,k4⟩:=h;exact hy g hg a' w' k1 k2 k3 k4
  | exit id=>exact h
  | goto l=>exact h
  | ret=>exact h
  | panic ch=>exact h
  | outgrown=>exact h
theorem Y.au {N:Nat}{w0:World}{S0:Bs}{T:eY}{l:List Asn}{Q:Exit→Act→World→Prop}{γ:Type}{Tm:γ→eY}{lm:γ→List Asn}{φ:γ→Prop} (g':γ) (hg:φ g') (hT:Sub T (Tm g')) (hl:∀w,WS w0 S0 l w→WS w0 S0 (lm g') w):
    Y N w0 S0 (Exit.then (fun a w=>a.defers= []∧a.tmps.size=N∧∃g',φ g'∧Holds (Tm g') a∧WS w0 S0 (lm g') w) Q .normal) T l:=
  fun _ w h1 h2 h3 h4=>⟨h1,h2,g',hg,hT.holds h3,hl w h4⟩
end Go.Proofs.YtmejbfmhaoilmaaGreat
/- What is proved: the disk, as plain functions on data, and when each answer comes. No condition. -/
namespace Go.Proofs.YtmejbfmhaoilmaaGreat
set_option linter.unusedVariables false
set_option linter.unusedSimpArgs false
def pB {α : Type} (f : α → Int) : List α → Int
  | []=>0
  | x :: xs=>if f x=0 then pB f xs else f x
theorem uO {α:Type}{f:α→Int}{xs:List α} (h:∀(j:Nat) x,xs[j]? =some x→f x=0):pB f xs=0:=by
  induction xs with
  | nil=>rfl
  | cons x xs ih=>
    simp only [pB,h 0 x rfl,if_true]
    exact ih (fun j y hy=>h (j+1) y hy)
theorem rC {α : Type} {f : α → Int} : ∀ {xs : List α} {k : Nat} {x : α}, xs[k]? = some x → f x ≠ 0 → (∀ j y, j < k → xs[j]? = some y → f y = 0) → pB f xs = f x
  | [],k,x,h,_,_=>by simp at h
  | y :: xs,0,x,h,hn,_=>by
    simp at h;subst h
    simp only [pB,if_neg hn]
  | y :: xs,k+1,x,h,hn,ha=>by
    simp only [pB,ha 0 y (by omega) rfl,if_true]
    exact rC (by simpa using h) hn (fun j z hj hz=>ha (j+1) z (by omega) (by simpa using hz))
theorem wZ {α:Type} (p:α→Bool) (xs:List α):decide (0≤fG p xs)=xs.any p:=by
  unfold fG
  cases h:xs.findIdx? p with
  | none=>
    have:xs.any p=false:=by rw [List.any_eq_false];intro x hx;have:=List.findIdx?_eq_none_iff.1 h x hx;simp [this]
    rw [this];rfl
  | some i=>
    have:xs.any p=true:=by
      rw [List.any_eq_true]
      obtain⟨hi,hp,_⟩:=List.findIdx?_eq_some_iff_getElem.1 h
      exact⟨_,List.getElem_mem hi,hp⟩
    rw [this];simp
abbrev bZ (n:Nat) (at_:Int):Prop:=0≤at_∧at_≤(n:Int) - 1
theorem kS {α:Type}{xs:List α}{k:Nat}{x:α} (h:xs[k]? =some x):xs.take k++ [x]=xs.take (k+1):=by
  rw [List.take_add_one,h];rfl
def aIp (n:Nat) (e:aJg):Prop:=(1≤e.key∧e.key≤9999)∧(0≤e.frm∧e.frm≤n)∧(1≤e.cnt∧e.cnt≤n)∧e.frm+e.cnt≤n
instance (n:Nat) (e:aJg):Decidable (aIp n e):=by unfold aIp;infer_instance
abbrev aMo (a:Int) (e:aJg):Prop:=e.frm≤a∧a≤e.frm+e.cnt - 1
theorem sR {α : Type} {f : α → Int} : ∀ {xs : List α}, pB f xs = 0 → ∀ x, x ∈ xs → f x = 0
  | [],_,x,hx=>by cases hx
  | y :: xs,h,x,hx=>by
    unfold pB at h
    by_cases hy:f y=0
    · rw [if_pos hy] at h
      rcases List.mem_cons.1 hx with rfl | hx
      · exact hy
      · exact sR h x hx
    · rw [if_neg hy] at h;exact absurd h hy
end Go.Proofs.YtmejbfmhaoilmaaGreat
/- What is proved: names, inodes and their faults, in plain Lean. No condition. -/
namespace Go.Proofs.YtmejbfmhaoilmaaGreat
open Go Go.RowKit
set_option linter.unusedVariables false
set_option linter.unusedSimpArgs false
abbrev vD (b:UInt8):Prop:=(97:Int)≤(b.toNat:Int)∧(b.toNat:Int)≤122
def cK (s:ByteArray):Int:=if s.data.toList.all (fun b=>decide (vD b))=true then(if s.size=0 then 5 else if 4<s.size then 2 else 0)else 5
theorem oW {s:ByteArray}{k:Nat}{b:UInt8} (hb:s.data.toList[k]? =some b) (h:¬vD b):cK s=5:=by
  unfold cK
  rw [if_neg]
  intro ha
  exact h (of_decide_eq_true (List.all_eq_true.1 ha b (List.mem_of_getElem? hb)))
theorem aD8 {s:ByteArray} (h:∀j b,j<s.size→s.data.toList[j]? =some b→vD b):s.data.toList.all (fun b=>decide (vD b))=true:=
  List.all_eq_true.2 fun b hb=>by
    obtain⟨j,hj⟩:=List.mem_iff_getElem?.1 hb
    exact decide_eq_true (h j b (by have:=(List.getElem?_eq_some_iff.1 hj).1;rw [nA] at this;exact this) hj)
theorem aDu {s:ByteArray} (h:¬s=⟨#[]⟩):¬s.size=0:=fun h0=>h (by
  cases s with
  | mk d => have : d.size = 0 := h0
            rw [Array.size_eq_zero_iff] at this
            rw [this])
theorem iH {s:ByteArray} (h:s=⟨#[]⟩):cK s=5:=by
  subst h
  decide
theorem iG {s:ByteArray} (hall:∀j b,j<s.size→s.data.toList[j]? =some b→vD b) (h:¬s=⟨#[]⟩) (h4:(4:Int)<(s.size:Int)):cK s=2:=by
  unfold cK
  rw [if_pos (aD8 hall),if_neg (aDu h),if_pos (by omega)]
theorem iC {s:ByteArray} (hall:∀j b,j<s.size→s.data.toList[j]? =some b→vD b) (h:¬s=⟨#[]⟩) (h4:¬(4:Int)<(s.size:Int)):cK s=0:=by
  unfold cK
  rw [if_pos (aD8 hall),if_neg (aDu h),if_neg (by omega)]
theorem uL {s:ByteArray} (h:cK s=0):s.size≤4∧0<s.size:=by
  unfold cK at h
  split at h
  · split at h
    · exact absurd h (by decide)
    · split at h
      · exact absurd h (by decide)
      · omega
  · exact absurd h (by decide)
theorem aF2 : ∀ x y : List UInt8, (Op.bytesLess x y || decide (x = y)) = !Op.bytesLess y x
  | [],[]=>by simp [Op.bytesLess]
  | [],b :: y=>by simp [Op.bytesLess]
  | a :: x,[]=>by simp [Op.bytesLess]
  | a :: x,b :: y=>by
    have ih:=aF2 x y
    simp only [Op.bytesLess,List.cons.injEq]
    by_cases h:a=b
    · subst h
      have:¬a<a:=UInt8.lt_irrefl a
      simp [this] at ih ⊢
      exact ih
    · have h' : ¬ b = a := fun e => h e.symm
      simp [h,h']
      rcases UInt8.lt_or_lt_of_ne h with g | g
      · have : ¬ b < a := UInt8.lt_asymm g
        simp [g,this,UInt8.le_of_lt g]
        exact .inl h'
      · have : ¬ a < b := UInt8.lt_asymm g
        simp [g,this]
        exact fun e=>absurd e h
theorem toList_inj {s u:ByteArray}:s.toList=u.toList↔s=u:=by
  constructor
  · intro h
    have h2:s.data.toList=u.data.toList:=by simpa [ByteArray.toList_eq] using h
    cases s;cases u
    simp at h2
    rw [h2]
  · rintro rfl;rfl
theorem rR (s u:ByteArray):(sLt s u || decide (s=u))= !sLt u s:=by
  have:=aF2 s.toList u.toList
  unfold sLt
  rw [←this]
  congr 1
  rw [decide_eq_decide]
  exact toList_inj.symm
def gJ (x:aF):Int:=
  if (1 ≤ x.links ∧ x.links ≤ 60) ∧ (0 ≤ x.size ∧ x.size ≤ 32) then
    if (x.blocks.length : Int) = (x.size + 7) / 8 then
      if x.blocks.any (fun b=> !decide (0≤b∧b≤19))=true then 3 else if x.blocks.Nodup then 0 else 7
    else 1
  else 3
theorem cX {x:aF} (h:¬((1≤x.links∧x.links≤60)∧(0≤x.size∧x.size≤32))):gJ x=3:=if_neg h
theorem cW {x:aF} (h:(1≤x.links∧x.links≤60)∧(0≤x.size∧x.size≤32)) (h2:¬(x.blocks.length:Int)=(x.size+7) / 8):gJ x=1:=by
  unfold gJ;rw [if_pos h,if_neg h2]
theorem dG {x:aF} (h:(1≤x.links∧x.links≤60)∧(0≤x.size∧x.size≤32)) (h2:(x.blocks.length:Int)=(x.size+7) / 8) (h3:x.blocks.any (fun b=> !decide (0≤b∧b≤19))=true):gJ x=3:=by
  unfold gJ;rw [if_pos h,if_pos h2,if_pos h3]
theorem uW {x:aF} (h:(1≤x.links∧x.links≤60)∧(0≤x.size∧x.size≤32)) (h2:(x.blocks.length:Int)=(x.size+7) / 8) (h3:x.blocks.any (fun b=> !decide (0≤b∧b≤19))=false) (h4:¬x.blocks.Nodup):gJ x=7:=by
  unfold gJ;rw [if_pos h,if_pos h2,if_neg (by rw [h3];decide),if_neg h4]
theorem cU {x:aF} (h:(1≤x.links∧x.links≤60)∧(0≤x.size∧x.size≤32)) (h2:(x.blocks.length:Int)=(x.size+7) / 8) (h3:x.blocks.any (fun b=> !decide (0≤b∧b≤19))=false) (h4:x.blocks.Nodup):gJ x=0:=by
  unfold gJ;rw [if_pos h,if_pos h2,if_neg (by rw [h3];decide),if_pos h4]
theorem aDj {α:Type}{xs:List α}{k:Nat}{b:α} (h:(xs.take k).Nodup) (hb:xs[k]? =some b) (hn:¬b∈xs.take k):(xs.take (k+1)).Nodup:=by
  rw [←kS hb]
  exact List.nodup_append.2 ⟨h,by simp,fun a ha c hc=>by
    obtain rfl:=List.mem_singleton.1 hc
    exact fun e=>hn (e ▸ ha)⟩
theorem yR {α:Type}{xs:List α}{k:Nat}{b:α} (hb:xs[k]? =some b) (hm:b∈xs.take k):¬xs.Nodup:=fun h=>by
  have:(xs.take (k+1)).Nodup:=h.sublist (List.take_sublist _ _)
  rw [←kS hb] at this
  exact(List.nodup_append.1 this).2.2 b hm b (List.mem_singleton.2 rfl) rfl
theorem aAs {α:Type}{xs:List α}{k q:Nat}{b:α} (hb:xs[q]? =some b) (h:q<k):b∈xs.take k:=by
  refine List.mem_of_getElem? (i:=q) ?_
  rw [List.getElem?_take,if_pos h]
  exact hb
theorem tI {α:Type}{xs:List α}{k:Nat}{b:α} (h:∀j y,j<k→xs[j]? =some y→¬y=b):¬b∈xs.take k:=fun hm=>by
  obtain⟨j,hj⟩:=List.mem_iff_getElem?.1 hm
  rw [List.getElem?_take] at hj
  split at hj
  · rename_i hlt;exact h j b hlt hj rfl
  · cases hj
theorem aD3 {xs:List Int}{k:Nat}{b:Int} (hb:xs[k]? =some b) (h:¬(0≤b∧b≤19)):xs.any (fun b=> !decide (0≤b∧b≤19))=true:=
  List.any_eq_true.2 ⟨b,List.mem_of_getElem? hb,by simp only [decide_eq_false h];rfl⟩
theorem oG {xs:List Int} (h:∀j b,j<xs.length→xs[j]? =some b→0≤b∧b≤19):xs.any (fun b=> !decide (0≤b∧b≤19))=false:=by
  rw [List.any_eq_false]
  intro b hb
  obtain⟨j,hj⟩:=List.mem_iff_getElem?.1 hb
  rw [decide_eq_true (h j b (List.getElem?_eq_some_iff.1 hj).1 hj)]
  decide
def gW (xs:List Int):Int:=if 20<xs.length then 2 else if xs.any (fun b=> !decide (0≤b∧b≤19))=true then 3 else 0
theorem kM {xs:List Int} (h:(20:Int)<(xs.length:Int)):gW xs=2:=if_pos (by omega)
theorem kL {xs:List Int} (h:¬(20:Int)<(xs.length:Int)) (h2:xs.any (fun b=> !decide (0≤b∧b≤19))=true):gW xs=3:=by unfold gW;rw [if_neg (by omega),if_pos h2]
theorem iD {xs:List Int} (h:¬(20:Int)<(xs.length:Int)) (h2:xs.any (fun b=> !decide (0≤b∧b≤19))=false):gW xs=0:=by unfold gW;rw [if_neg (by omega),if_neg (by rw [h2];decide)]
def oH (es:List bV) (j:Nat) (e:bV):Int:=
  if cK e.name=0 then if 0≤e.ino∧e.ino≤9 then(match (if j=0 then none else es[j - 1]?) with | some p=>if sLt p.name e.name=true then 0 else 1 | none=>0)else 3 else cK e.name
def qG (es:List bV) (j:Nat):Int:=match es[j]? with | some e=>oH es j e | none=>0
def aCd (f:Nat→Int) (n:Nat):Int:=pB f (List.range n)
theorem aB9 {f:Nat→Int}{n k:Nat} (hk:k<n) (h:¬f k=0) (ha:∀j,j<k→f j=0):aCd f n=f k:=
  rC (k:=k) (x:=k) (by simp [hk]) h (fun j y hj hy=>by
    have:j<n:=by omega
    simp [this] at hy
    subst hy
    exact ha j hj)
theorem aBj {f:Nat→Int}{n:Nat} (ha:∀j,j<n→f j=0):aCd f n=0:=
  uO (fun j y hy=>by
    have:=(List.getElem?_eq_some_iff.1 hy)
    obtain⟨h1,h2⟩:=this
    simp at h1 h2
    subst h2
    exact ha j h1)
def jW (x:aF):Int:=if 6<x.ents.length then 2 else aCd (qG x.ents) x.ents.length
theorem jD {x:aF} (h:(6:Int)<(x.ents.length:Int)):jW x=2:=if_pos (by omega)
theorem gG {x:aF}{k:Nat}{e:bV} (h:¬(6:Int)<(x.ents.length:Int)) (he:x.ents[k]? =some e) (hn:¬oH x.ents k e=0) (ha:∀j,j<k→qG x.ents j=0):jW x=oH x.ents k e:=by
  have e1:qG x.ents k=oH x.ents k e:=by unfold qG;rw [he]
  unfold jW
  rw [if_neg (by omega),aB9 (List.getElem?_eq_some_iff.1 he).1 (by rw [e1];exact hn) ha,e1]
theorem iK {x:aF} (h:¬(6:Int)<(x.ents.length:Int)) (ha:∀j,j<x.ents.length→qG x.ents j=0):jW x=0:=by
  unfold jW;rw [if_neg (by omega),aBj ha]
theorem lH {es:List bV}{j:Nat}{e:bV} (h:¬cK e.name=0):oH es j e=cK e.name:=if_neg h
theorem lG {es:List bV}{j:Nat}{e:bV} (h:cK e.name=0) (h2:¬(0≤e.ino∧e.ino≤9)):oH es j e=3:=by unfold oH;rw [if_pos h,if_neg h2]
theorem vH {es:List bV}{j:Nat}{e p:bV} (h:cK e.name=0) (h2:0≤e.ino∧e.ino≤9) (hj:0<j) (hp:es[j - 1]? =some p) (hl:sLt p.name e.name=false):oH es j e=1:=by
  unfold oH;rw [if_pos h,if_pos h2,if_neg (by omega),hp];simp [hl]
theorem aDo {es:List bV}{j:Nat}{e p:bV} (h:cK e.name=0) (h2:0≤e.ino∧e.ino≤9) (hj:0<j) (hp:es[j - 1]? =some p) (hl:sLt p.name e.name=true):oH es j e=0:=by
  unfold oH;rw [if_pos h,if_pos h2,if_neg (by omega),hp];simp [hl]
theorem rT {es:List bV}{j:Nat}{e:bV} (h:cK e.name=0) (h2:0≤e.ino∧e.ino≤9) (hj:j=0):oH es j e=0:=by
  unfold oH;rw [if_pos h,if_pos h2,if_pos hj]
theorem vK {es:List bV}{k:Nat}{e:bV} (ha:∀j,j<k→qG es j=0) (he:es[k]? =some e) (h:oH es k e=0):∀j,j<k+1→qG es j=0:=fun j hj=>by
  by_cases hk:j<k
  · exact ha j hk
  · obtain rfl : j = k := by omega
    unfold qG;rw [he];exact h
def cL (x:aF):Int:=
  if 0 ≤ x.kind ∧ x.kind ≤ 2 then
    if(x.kind≠1∧¬(x.links=0∧x.size=0∧x.blocks.length=0))∨(x.kind≠2∧¬x.ents.length=0)then 1
    else if x.kind=1 then gJ x else if x.kind=2 then jW x else 0
  else 1
theorem cN {x:aF} (h:¬(0≤x.kind∧x.kind≤2)):cL x=1:=if_neg h
theorem cO {x:aF} (h:(x.kind≠1∧¬(x.links=0∧x.size=0∧x.blocks.length=0))∨(x.kind≠2∧¬x.ents.length=0)):cL x=1:=by
  unfold cL
  by_cases hk:0≤x.kind∧x.kind≤2
  · rw [if_pos hk,if_pos h]
  · rw [if_neg hk]
theorem cI {x:aF} (h:x.kind=1) (h2:x.ents.length=0):cL x=gJ x:=by
  unfold cL;rw [if_pos (by omega),if_neg (by omega),if_pos h]
theorem cJ {x:aF} (h:x.kind=2) (h2:x.links=0∧x.size=0∧x.blocks.length=0):cL x=jW x:=by
  unfold cL;rw [if_pos (by omega),if_neg (by omega),if_neg (by omega),if_pos h]
theorem cG {x:aF} (h:x.kind=0) (h2:x.links=0∧x.size=0∧x.blocks.length=0) (h3:x.ents.length=0):cL x=0:=by
  unfold cL;rw [if_pos (by omega),if_neg (by omega),if_neg (by omega),if_neg (by omega)]
theorem cP {x:aF} (h:0≤x.kind∧x.kind≤2) (h1:¬x.kind=1) (h2:x.links=0∧x.size=0∧x.blocks.length=0) (h3:x.kind=2∨x.ents.length=0):cL x=jW x:=by
  by_cases hk:x.kind=2
  · exact cJ hk h2
  · rw [cG (by omega) h2 (by omega)]
    exact(iK (by omega) (fun j hj=>by omega)).symm
def bM (xs:List aF):Int:=if 10<xs.length then 2 else pB cL xs
theorem kD {xs:List aF} (h:(10:Int)<(xs.length:Int)):bM xs=2:=if_pos (by omega)
theorem sH {xs:List aF}{k:Nat}{x:aF} (h:¬(10:Int)<(xs.length:Int)) (hx:xs[k]? =some x) (hn:¬cL x=0) (ha:∀j y,j<k→xs[j]? =some y→cL y=0):bM xs=cL x:=by
  unfold bM;rw [if_neg (by omega),rC hx hn ha]
theorem iE {xs:List aF} (h:¬(10:Int)<(xs.length:Int)) (ha:∀j y,j<xs.length→xs[j]? =some y→cL y=0):bM xs=0:=by
  unfold bM;rw [if_neg (by omega),uO (fun j y hy=>ha j y (List.getElem?_eq_some_iff.1 hy).1 hy)]
theorem kW {xs:List aF} (h:bM xs=0):xs.length≤10:=by
  unfold bM at h
  split at h
  · exact absurd h (by decide)
  · omega
theorem dK {xs:List aF} (h:bM xs=0):∀x,x∈xs→cL x=0:=by
  unfold bM at h
  split at h
  · exact absurd h (by decide)
  · exact sR h
theorem zZ {x:aF} (h:cL x=0):x.ents.length≤6:=by
  unfold cL at h
  split at h
  · split at h
    · exact absurd h (by decide)
    · split at h
      · omega
      · split at h
        · unfold jW at h
          split at h
          · exact absurd h (by decide)
          · omega
        · omega
  · exact absurd h (by decide)
def oN (a:Int) (e:bV):Nat:=if e.ino=a then 1 else 0
def gO (a:Int) (x:aF):Nat:=gS (oN a) x.ents
def fQ (xs:List aF) (a:Int):Nat:=gS (gO a) xs
theorem tJ {α : Type} {f : α → Nat} {B : Nat} : ∀ {xs : List α}, (∀ x, x ∈ xs → f x ≤ B) → gS f xs ≤ xs.length * B
  | [],_=>Nat.zero_le _
  | x :: xs,h=>by
    have h1:=h x List.mem_cons_self
    have h2:=tJ (xs:=xs) (fun y hy=>h y (List.mem_cons_of_mem _ hy))
    simp only [gS,List.length_cons,Nat.succ_mul]
    omega
theorem aJt (a:Int) (e:bV):oN a e≤1:=by unfold oN;split <;> omega
theorem wG {xs:List aF} (h:bM xs=0) (a:Int):fQ xs a≤60:=by
  have h1:fQ xs a≤xs.length * 6:=tJ fun x hx=>by
    have h2:gO a x≤x.ents.length * 1:=tJ fun e _=>aJt a e
    have h3:=zZ (dK h x hx)
    omega
  have:=kW h
  omega
def cZ (xs:List aF):Int:=match xs.findIdx? (fun x=>decide (x.kind=0)) with | some i=>i | none=>if xs.length=10 then -1 else xs.length
theorem aHe {xs:List aF}{k:Nat}{x:aF} (hx:xs[k]? =some x) (h:x.kind=0) (ha:∀j y,j<k→xs[j]? =some y→¬y.kind=0):cZ xs=(k:Int):=by
  have:xs.findIdx? (fun x=>decide (x.kind=0))=some k:=by
    obtain⟨hk,rfl⟩:=List.getElem?_eq_some_iff.1 hx
    exact List.findIdx?_eq_some_iff_getElem.2 ⟨hk,decide_eq_true h,fun j hj=>by
      have:=ha j _ hj (List.getElem?_eq_getElem (by omega))
      simpa using this⟩
  unfold cZ
  rw [this]
theorem yQ {xs:List aF}{q:Nat} (hq:xs.length≤q) (ha:∀j y,j<q→xs[j]? =some y→¬y.kind=0):xs.findIdx? (fun x=>decide (x.kind=0))=none:=by
  rw [List.findIdx?_eq_none_iff]
  intro y hy
  obtain⟨j,hj⟩:=List.mem_iff_getElem?.1 hy
  have:=ha j y (by have:=(List.getElem?_eq_some_iff.1 hj).1;omega) hj
  simpa using this
theorem xB {xs:List aF}{q:Nat} (hq:xs.length≤q) (ha:∀j y,j<q→xs[j]? =some y→¬y.kind=0) (h:(xs.length:Int)<10):cZ xs=(xs.length:Int):=by
  unfold cZ;rw [yQ hq ha];simp only;rw [if_neg (by omega)]
theorem wI {xs:List aF}{q:Nat} (hq:xs.length≤q) (ha:∀j y,j<q→xs[j]? =some y→¬y.kind=0) (h:¬(xs.length:Int)<10) (h10:xs.length≤10):cZ xs= -1:=by
  unfold cZ;rw [yQ hq ha];simp only;rw [if_pos (by omega)]
end Go.Proofs.YtmejbfmhaoilmaaGreat
/- What is proved: blocks that are used, free and picked, in plain Lean. No condition. -/
namespace Go.Proofs.YtmejbfmhaoilmaaGreat
open Go Go.RowKit
set_option linter.unusedVariables false
set_option linter.unusedSimpArgs false
def eW (xs:List aF):List Int:=(xs.map (·.blocks)).flatten
def jX (l:List Int):List Int:=l.mergeSort (fun x y=>decide (x≤y))
theorem pZ (l:List Int):(jX l).Perm l:=List.mergeSort_perm ..
theorem yF (l:List Int):(jX l).length=l.length:=(pZ l).length_eq
theorem fS {l:List Int}{a:Int}:a∈jX l↔a∈l:=(pZ l).mem_iff
theorem aAc (l:List Int):(jX l).Pairwise (· ≤ ·):=by
  have:=List.pairwise_mergeSort (le:=fun(x y:Int)=>decide (x≤y)) (fun a b c h k=>by simp at *;omega) (fun a b=>by simp;omega) l
  exact this.imp (fun h=>by simpa using h)
theorem nV {xs:List aF}{k:Nat}{x:aF} (h:xs[k]? =some x):eW (xs.take k)++x.blocks=eW (xs.take (k+1)):=by
  unfold eW
  rw [←kS h]
  simp
theorem aBt (zs:List Int):(Lib.compact zs).length≤zs.length:=by
  unfold Lib.compact Lib.compactUpTo
  rw [List.length_map]
  exact Nat.le_trans (List.length_filter_le _ _) (by simp)
theorem xZ {zs:List Int} (h:zs.Nodup):(Lib.compact zs).length=zs.length:=by
  rw [Lib.compact_all zs]
  intro j hj
  by_cases h0:j=0
  · simp [Lib.keeps,h0]
  · refine Lib.keeps_pos ?_
    rw [getElem!_pos zs.toArray j (by simpa using hj),getElem!_pos zs.toArray (j - 1) (by simp;omega)]
    intro e
    have:=List.pairwise_iff_getElem.1 (List.nodup_iff_pairwise_ne.1 h) (j - 1) j (by omega) hj (by omega)
    exact this (by simpa using e.symm)
theorem aA8 {zs:List Int} (hs:zs.Pairwise (· ≤ ·)) (h:¬zs.Nodup):(Lib.compact zs).length<zs.length:=by
  -- a place whose left neighbour holds the same
  have hex:∃j,0<j∧∃h1:j<zs.length,zs[j]=zs[j - 1]:=by
    apply Classical.byContradiction
    intro hno
    apply h
    have hlt:∀(d i:Nat) (h1:i+d+1<zs.length),zs[i]<zs[i+d+1]:=by
      intro d
      induction d with
      | zero=>
        intro i h1
        have h2:zs[i]≤zs[i+1]:=List.pairwise_iff_getElem.1 hs i (i+1) (by omega) h1 (by omega)
        have h3:zs[i+1]≠zs[i]:=fun e=>hno ⟨i+1,by omega,h1,by simpa using e⟩
        simp only [Nat.add_zero]
        omega
      | succ d ih=>
        intro i h1
        have h2:=ih i (by omega)
        have h4:zs[i+d+1]≤zs[i+d+1+1]:=List.pairwise_iff_getElem.1 hs (i+d+1) (i+d+1+1) (by omega) (by omega) (by omega)
        have e:i+(d+1)+1=i+d+1+1:=by omega
        simp only [e]
        omega
    rw [List.nodup_iff_pairwise_ne,List.pairwise_iff_getElem]
    intro i j hi hj hij
    have:=hlt (j - i - 1) i (by omega)
    have e:i+(j - i - 1)+1=j:=by omega
    simp only [e] at this
    omega
  obtain⟨j,hj0,hj,he⟩:=hex
  have hk:Lib.keeps zs.toArray j=false:=by
    refine Lib.keeps_neg hj0 ?_
    rw [getElem!_pos zs.toArray j (by simpa using hj),getElem!_pos zs.toArray (j - 1) (by simp;omega)]
    simpa using he
  unfold Lib.compact Lib.compactUpTo
  rw [List.length_map]
  have:=List.length_filter_lt_length_iff_exists (l:=List.range zs.length) (p:=Lib.keeps zs.toArray)
  rw [List.length_range] at this
  exact this.2 ⟨j,List.mem_range.2 hj,by rw [hk];exact Bool.false_ne_true⟩
theorem aBa (l:List Int):((Lib.compact (jX l)).length=(jX l).length)↔l.Nodup:=by
  constructor
  · intro h
    apply Classical.byContradiction
    intro hn
    have:=aA8 (aAc l) (fun h2=>hn ((pZ l).nodup_iff.1 h2))
    omega
  · intro h
    exact xZ ((pZ l).nodup_iff.2 h)
def vC (a b:Int):Nat:=if b=a then 1 else 0
def zG (a:Int) (x:aF):Nat:=gS (vC a) x.blocks
def pC (xs:List aF) (a:Int):Nat:=gS (zG a) xs
theorem yC (a : Int) : ∀ l : List Int, gS (vC a) l = l.count a
  | []=>rfl
  | b :: l=>by
    simp only [gS,yC a l,List.count_cons,vC,beq_iff_eq]
    omega
theorem pM (a : Int) : ∀ xs : List aF, pC xs a = (eW xs).count a
  | []=>rfl
  | x :: xs=>by
    have ih:=pM a xs
    unfold pC eW at ih ⊢
    simp only [gS,List.map_cons,List.flatten_cons,List.count_append,←ih,zG,yC]
theorem kB {x:aF} (h:cL x=0):x.blocks.length≤4∧∀b,b∈x.blocks→0≤b∧b≤19:=by
  unfold cL at h
  split at h
  · split at h
    · exact absurd h (by decide)
    · rename_i h1 h2
      split at h
      · unfold gJ at h
        split at h
        · split at h
          · split at h
            · exact absurd h (by decide)
            · rename_i h3 h4 h5
              refine⟨by omega,fun b hb=> ?_⟩
              simp only [List.any_eq_true,not_exists,not_and] at h5
              have:=h5 b hb
              simpa using this
          · exact absurd h (by decide)
        · exact absurd h (by decide)
      · have h0 : x.blocks.length = 0 := by omega
        exact⟨by omega,fun b hb=>by rw [List.length_eq_zero_iff.1 h0] at hb;cases hb⟩
  · exact absurd h (by decide)
theorem aE3 {xs:List aF} (h:bM xs=0) {b:Int} (hb:b∈eW xs):0≤b∧b≤19:=by
  unfold eW at hb
  obtain⟨l,hl,hb⟩:=List.mem_flatten.1 hb
  obtain⟨x,hx,rfl⟩:=List.mem_map.1 hl
  exact(kB (dK h x hx)).2 b hb
theorem aE7 {xs:List aF} (h:∀x,x∈xs→cL x=0):(eW xs).length≤xs.length * 4:=by
  induction xs with
  | nil=>simp [eW]
  | cons x xs ih=>
    have h1:=(kB (h x List.mem_cons_self)).1
    have h2:=ih (fun y hy=>h y (List.mem_cons_of_mem _ hy))
    unfold eW at h2 ⊢
    simp only [List.map_cons,List.flatten_cons,List.length_append,List.length_cons]
    omega
theorem pO {xs:List aF} (h:bM xs=0) (k:Nat):(eW (xs.take k)).length≤40:=by
  have h1:=aE7 (xs:=xs.take k) (fun x hx=>dK h x (List.mem_of_mem_take hx))
  have h2:=kW h
  rw [List.length_take] at h1
  omega
theorem aFt {xs:List aF} (h:bM xs=0) (a:Int):pC xs a≤40:=by
  rw [pM]
  have:=pO h xs.length
  rw [List.take_length] at this
  exact Nat.le_trans List.count_le_length this
def cC (p:Int→Bool) (k:Nat):List Int:=((List.range k).map (fun i:Nat=>(i:Int))).filter p
theorem nH {p:Int→Bool}{k:Nat} (h:p (k:Int)=true):cC p k++ [(k:Int)]=cC p (k+1):=by
  unfold cC
  rw [List.range_succ]
  simp [h]
theorem iV {p:Int→Bool}{k:Nat} (h:p (k:Int)=false):cC p k=cC p (k+1):=by
  unfold cC
  rw [List.range_succ]
  simp [h]
theorem lW {p:Int→Bool}{k:Nat}:(cC p k).length≤k:=by
  unfold cC
  exact Nat.le_trans (List.length_filter_le _ _) (by simp)
theorem pX {p:Int→Bool}{k:Nat}{a:Int}:a∈cC p k↔(0≤a∧a<k)∧p a=true:=by
  unfold cC
  rw [List.mem_filter,List.mem_map]
  constructor
  · rintro ⟨⟨i, hi, rfl⟩, hp⟩
    have:=List.mem_range.1 hi
    exact⟨⟨by omega,by omega⟩,hp⟩
  · rintro ⟨⟨h1, h2⟩, hp⟩
    exact⟨⟨a.toNat,List.mem_range.2 (by omega),by omega⟩,hp⟩
theorem aBr {p:Int→Bool}{k:Nat}:(cC p k).Pairwise (· < ·):=by
  unfold cC
  refine List.Pairwise.filter _ ?_
  rw [List.pairwise_map]
  exact List.pairwise_lt_range.imp (fun h=>by omega)
theorem wV {p q:Int→Bool}{k:Nat} (h:∀a:Int,0≤a→a<k→p a=q a):cC p k=cC q k:=by
  unfold cC
  refine List.filter_congr fun a ha=> ?_
  obtain⟨i,hi,rfl⟩:=List.mem_map.1 ha
  have:=List.mem_range.1 hi
  exact h _ (by omega) (by omega)
def sO (xs:List aF) (k:Nat):Prop:=∀j,j<k→pC xs (j:Int)≤1
instance (xs:List aF) (k:Nat):Decidable (sO xs k):=by unfold sO;infer_instance
theorem kA {xs:List aF}{k:Nat}:sO xs (k+1)↔sO xs k∧pC xs (k:Int)≤1:=by
  unfold sO
  constructor
  · intro h
    exact⟨fun j hj=>h j (by omega),h k (by omega)⟩
  · rintro ⟨h1, h2⟩ j hj
    by_cases hk:j=k
    · subst hk;exact h2
    · exact h1 j (by omega)
theorem aFc {xs:List aF} (h:bM xs=0):sO xs 20↔(eW xs).Nodup:=by
  rw [List.nodup_iff_count]
  constructor
  · intro ho a
    by_cases ha:a∈eW xs
    · have hb := aE3 h ha
      have:=ho a.toNat (by omega)
      rw [show((a.toNat:Nat):Int)=a by omega,pM] at this
      exact this
    · rw [List.count_eq_zero_of_not_mem ha];omega
  · intro hn j _
    rw [pM]
    exact hn _
abbrev oP (xs:List aF):Int→Bool:=fun a=>decide (0<pC xs a)
abbrev nD (xs:List aF) (busy:List Int):Int→Bool:=fun b=>decide (¬b∈eW xs∧¬b∈busy)
theorem iN {xs:List aF}{a:Int}:(pC xs a:Int)=0↔¬a∈eW xs:=by
  rw [pM]
  constructor
  · intro h ha
    have:=List.count_pos_iff.2 ha
    omega
  · intro h
    rw [List.count_eq_zero_of_not_mem h]
    rfl
def kF (xs:List aF) (busy:List Int):List Int:=cC (nD xs busy) 20
def jK (xs:List aF) (busy:List Int):Int:=if bM xs=0 then gW busy else bM xs
theorem wN {xs:List aF}{busy:List Int} (h:jK xs busy=0):bM xs=0:=by
  unfold jK at h
  split at h
  · assumption
  · exact h
def hY (xs:List aF) (busy:List Int) (n:Int):jM:=if 0≤n∧n≤4 then if((kF xs busy).length:Int)<n then⟨8,[]⟩else⟨0,(kF xs busy).take n.toNat⟩else⟨3,[]⟩
theorem nY {xs:List aF}{busy:List Int}{n:Int} (h:¬(0≤n∧n≤4)):hY xs busy n=⟨3,[]⟩:=if_neg h
theorem oJ {xs:List aF}{busy:List Int}{n:Int} (h:0≤n∧n≤4) (h2:((kF xs busy).length:Int)<n):hY xs busy n=⟨8,[]⟩:=by unfold hY;rw [if_pos h,if_pos h2]
theorem oK {xs:List aF}{busy:List Int}{n:Int} (h:0≤n∧n≤4) (h2:¬((kF xs busy).length:Int)<n):hY xs busy n=⟨0,(kF xs busy).take n.toNat⟩:=by unfold hY;rw [if_pos h,if_neg h2]
def sD (xs:List aF) (busy:List Int) (n:Int):jM:=if jK xs busy=0 then hY xs busy n else⟨jK xs busy,[]⟩
theorem vR {xs:List aF}{busy:List Int}{n:Int} (h:¬jK xs busy=0):sD xs busy n=⟨jK xs busy,[]⟩:=if_neg h
theorem jA {xs:List aF}{busy:List Int}{n:Int} (h:jK xs busy=0):sD xs busy n=hY xs busy n:=if_pos h
end Go.Proofs.YtmejbfmhaoilmaaGreat
/- What is proved: the words of an inode, and an inode read back, in plain Lean. No condition. -/
namespace Go.Proofs.YtmejbfmhaoilmaaGreat
open Go Go.RowKit
set_option linter.unusedVariables false
set_option linter.unusedSimpArgs false
theorem pV {x:aF} (h:cL x=0):∀(j:Nat) e,x.ents[j]? =some e→cK e.name=0∧0≤e.ino∧e.ino≤9:=by
  unfold cL at h
  split at h
  · split at h
    · exact absurd h (by decide)
    · rename_i h1 h2
      intro j e he
      have hj:=(List.getElem?_eq_some_iff.1 he).1
      split at h
      · omega
      · split at h
        · unfold jW at h
          split at h
          · exact absurd h (by decide)
          · have h3 := sR h j (List.mem_range.2 hj)
            unfold qG at h3
            rw [he] at h3
            simp only [oH] at h3
            split at h3
            · split at h3
              · rename_i h4 h5;exact⟨h4,h5⟩
              · exact absurd h3 (by decide)
            · contradiction
        · omega
  · exact absurd h (by decide)
end Go.Proofs.YtmejbfmhaoilmaaGreat
/- What is proved: a tree's faults, what a name leads to, in plain Lean. No condition. -/
namespace Go.Proofs.YtmejbfmhaoilmaaGreat
open Go Go.RowKit
set_option linter.unusedVariables false
set_option linter.unusedSimpArgs false
def bF (xs:List aF) (i:Int):Int:=match xs[i.toNat]? with | some x=>x.kind | none=>0
theorem dC {xs:List aF}{i:Int}{j:Nat}{x:aF} (hx:xs[j]? =some x) (h:i=(j:Int)):bF xs i=x.kind:=by
  subst h
  unfold bF
  rw [Int.toNat_natCast,hx]
theorem pE {xs:List aF}{i:Int} (h:(xs.length:Int)≤i):bF xs i=0:=by
  unfold bF
  rw [List.getElem?_eq_none (by omega)]
abbrev pD (xs:List aF) (e:bV):Prop:=bF xs e.ino=0
def gC (f:DFs):Int:=if bM f.inodes=0 then if f.inodes.length=0∨¬bF f.inodes 0=2∨¬f.data.length=20 then 1 else 0 else bM f.inodes
theorem dU {f:DFs} (h:¬bM f.inodes=0):gC f=bM f.inodes:=if_neg h
theorem dT {f:DFs} (h:bM f.inodes=0) (h2:f.inodes.length=0∨¬bF f.inodes 0=2∨¬f.data.length=20):gC f=1:=by unfold gC;rw [if_pos h,if_pos h2]
theorem cE {f:DFs} (h:bM f.inodes=0) (h1:¬f.inodes.length=0) (h2:bF f.inodes 0=2) (h3:f.data.length=20):gC f=0:=by unfold gC;rw [if_pos h,if_neg (by omega)]
theorem sJ {f:DFs} (h:gC f=0):bM f.inodes=0∧0<f.inodes.length∧bF f.inodes 0=2∧f.data.length=20:=by
  unfold gC at h
  split at h
  · split at h
    · exact absurd h (by decide)
    · rename_i h1 h2;exact⟨h1,by omega,by omega,by omega⟩
  · contradiction
def xX (f:DFs):Bool:=f.data.any (fun b=>decide ((8:Int)<(b.length:Int)))
def aBf (f:DFs):Bool:=f.inodes.any (fun x=>x.ents.any (fun e=>decide (pD f.inodes e)))
def bL (f:DFs):Int:=if gC f=0 then if xX f=true then 2 else if(eW f.inodes).Nodup then if aBf f=true then 4 else 0 else 7 else gC f
theorem dQ {f:DFs} (h:¬gC f=0):bL f=gC f:=if_neg h
theorem fI {f:DFs} (h:gC f=0) (h2:xX f=true):bL f=2:=by unfold bL;rw [if_pos h,if_pos h2]
theorem fH {f:DFs} (h:gC f=0) (h2:xX f=false) (h3:¬(eW f.inodes).Nodup):bL f=7:=by unfold bL;rw [if_pos h,if_neg (by rw [h2];decide),if_neg h3]
theorem oQ {f:DFs} (h:gC f=0) (h2:xX f=false) (h3:(eW f.inodes).Nodup) (h4:aBf f=true):bL f=4:=by unfold bL;rw [if_pos h,if_neg (by rw [h2];decide),if_pos h3,if_pos h4]
theorem fE {f:DFs} (h:gC f=0) (h2:xX f=false) (h3:(eW f.inodes).Nodup) (h4:aBf f=false):bL f=0:=by unfold bL;rw [if_pos h,if_neg (by rw [h2];decide),if_pos h3,if_neg (by rw [h4];decide)]
theorem aGi {f:DFs}{k:Nat}{b:List UInt8} (hb:f.data[k]? =some b) (h:(8:Int)<(b.length:Int)):xX f=true:=List.any_eq_true.2 ⟨b,List.mem_of_getElem? hb,decide_eq_true h⟩
theorem gR {f:DFs} (h:∀j b,j<f.data.length→f.data[j]? =some b→¬(8:Int)<(b.length:Int)):xX f=false:=by
  unfold xX
  rw [List.any_eq_false]
  intro b hb
  obtain⟨j,hj⟩:=List.mem_iff_getElem?.1 hb
  rw [decide_eq_false (h j b (List.getElem?_eq_some_iff.1 hj).1 hj)]
  decide
theorem qZ {f:DFs}{k q:Nat}{x:aF}{e:bV} (hx:f.inodes[k]? =some x) (he:x.ents[q]? =some e) (h:pD f.inodes e):aBf f=true:=
  List.any_eq_true.2 ⟨x,List.mem_of_getElem? hx,List.any_eq_true.2 ⟨e,List.mem_of_getElem? he,decide_eq_true h⟩⟩
abbrev qY (xs:List aF) (x:aF):Prop:=∀(j:Nat) (e:bV),x.ents[j]? =some e→¬pD xs e
theorem jH {f:DFs} (h:∀j x,j<f.inodes.length→f.inodes[j]? =some x→qY f.inodes x):aBf f=false:=by
  unfold aBf
  rw [List.any_eq_false]
  intro x hx
  obtain⟨j,hj⟩:=List.mem_iff_getElem?.1 hx
  have h1:=h j x (List.getElem?_eq_some_iff.1 hj).1 hj
  rw [Bool.not_eq_true,List.any_eq_false]
  intro e he
  obtain⟨i,hi⟩:=List.mem_iff_getElem?.1 he
  rw [decide_eq_false (h1 i e hi)]
  decide
theorem rI {f:DFs} (h:bL f=0):gC f=0∧xX f=false∧(eW f.inodes).Nodup∧aBf f=false:=by
  unfold bL at h
  split at h
  · split at h
    · exact absurd h (by decide)
    · split at h
      · split at h
        · exact absurd h (by decide)
        · rename_i h1 h2 h3 h4;exact⟨h1,by simpa using h2,h3,by simpa using h4⟩
      · exact absurd h (by decide)
  · contradiction
theorem kH {f:DFs} (h:bL f=0):bM f.inodes=0:=(sJ (rI h).1).1
theorem aHx {f:DFs} (h:aBf f=false) {k:Nat}{x:aF} (hx:f.inodes[k]? =some x):qY f.inodes x:=fun j e he hb=>by
  have:=qZ hx he hb
  rw [h] at this
  cases this
theorem aAf {xs:List aF}{e:bV} (h:¬pD xs e):e.ino<(xs.length:Int):=by
  apply Classical.byContradiction
  intro hn
  exact h (pE (by omega))
def jB (f:DFs) (a:Int):Int:=if bL f=0 then if bZ f.inodes.length a then if bF f.inodes a=2 then 0 else 9 else 3 else bL f
theorem rL {f:DFs}{a:Int} (h:¬bL f=0):jB f a=bL f:=if_neg h
theorem rX {f:DFs}{a:Int} (h:bL f=0) (h2:¬bZ f.inodes.length a):jB f a=3:=by unfold jB;rw [if_pos h,if_neg h2]
theorem rO {f:DFs}{a:Int} (h:bL f=0) (h2:bZ f.inodes.length a) (h3:¬bF f.inodes a=2):jB f a=9:=by unfold jB;rw [if_pos h,if_pos h2,if_neg h3]
theorem rS {f:DFs}{a:Int} (h:bL f=0) (h2:bZ f.inodes.length a) (h3:bF f.inodes a=2):jB f a=0:=by unfold jB;rw [if_pos h,if_pos h2,if_pos h3]
theorem aK0 {f:DFs}{a:Int} (h:jB f a=0):bL f=0∧bZ f.inodes.length a∧bF f.inodes a=2:=by
  unfold jB at h
  split at h
  · split at h
    · split at h
      · rename_i h1 h2 h3;exact⟨h1,h2,h3⟩
      · exact absurd h (by decide)
    · exact absurd h (by decide)
  · contradiction
def aH (xs:List aF) (a:Int):List bV:=match xs[a.toNat]? with | some x=>x.ents | none=> []
theorem dE {xs:List aF}{a:Int}{j:Nat}{x:aF} (hx:xs[j]? =some x) (h:a=(j:Int)):aH xs a=x.ents:=by
  subst h
  unfold aH
  rw [Int.toNat_natCast,hx]
abbrev dH (s:ByteArray):bV→Bool:=fun e=>decide (e.name=s)
def jJ (es:List bV) (s:ByteArray):Int:=match es.find? (dH s) with | some e=>e.ino | none=> -1
theorem aEz {es:List bV}{s:ByteArray}{k:Nat}{e:bV} (he:es[k]? =some e) (h:e.name=s) (ha:∀j x,j<k→es[j]? =some x→¬x.name=s):jJ es s=e.ino:=by
  have:es.find? (dH s)=some e:=by
    obtain⟨hk,rfl⟩:=List.getElem?_eq_some_iff.1 he
    refine List.find?_eq_some_iff_getElem.2 ⟨decide_eq_true h,k,hk,rfl,fun j hj=> ?_⟩
    have:=ha j _ hj (List.getElem?_eq_getElem (by omega))
    simpa using this
  unfold jJ
  rw [this]
theorem gP {α:Type} (p:α→Bool) (xs:List α):fG p xs<(xs.length:Int)∧ -1≤fG p xs:=by
  unfold fG
  cases h:xs.findIdx? p with
  | none=>simp only;omega
  | some i=>
    have:=(List.findIdx?_eq_some_iff_getElem.1 h).1
    simp only;omega
theorem tW {es:List bV}{s:ByteArray}{x:bV} (h:¬fG (dH s) es<0) (hx:es[Int.toNat (fG (dH s) es)]? =some x):jJ es s=x.ino:=by
  unfold fG at h hx
  cases hf:es.findIdx? (dH s) with
  | none=>rw [hf] at h;exact absurd (by decide:(-1:Int)<0) h
  | some i=>
    rw [hf] at hx
    simp only [Int.toNat_natCast] at hx
    obtain⟨hi,hp,hn⟩:=List.findIdx?_eq_some_iff_getElem.1 hf
    obtain⟨h1,rfl⟩:=List.getElem?_eq_some_iff.1 hx
    refine aEz hx (of_decide_eq_true hp) fun j y hj hy=> ?_
    obtain⟨h2,rfl⟩:=List.getElem?_eq_some_iff.1 hy
    have:=hn j hj
    simpa using this
theorem rM {es:List bV}{s:ByteArray} (h:fG (dH s) es<0):jJ es s= -1:=by
  unfold fG at h
  cases hf:es.findIdx? (dH s) with
  | some i=>rw [hf] at h;simp only at h;omega
  | none=>
    have:es.find? (dH s)=none:=List.find?_eq_none.2 fun x hx=>by
      have:=List.findIdx?_eq_none_iff.1 hf x hx
      simpa using this
    unfold jJ
    rw [this]
def mV (es:List bV) (k:Nat):List ByteArray:=(es.take k).map (·.name)
theorem aEx {es:List bV}{k:Nat}{e:bV} (h:es[k]? =some e):mV es k++ [e.name]=mV es (k+1):=by
  unfold mV
  rw [←kS h,List.map_append]
  rfl
theorem aAp {es:List bV}{k:Nat}:(mV es k).length≤es.length:=by
  unfold mV;rw [List.length_map,List.length_take];omega
def tV (es:List bV):List ByteArray:=es.map (·.name)
theorem aBg {es:List bV}{k:Nat} (h:es.length≤k):mV es k=tV es:=by unfold mV tV;rw [List.take_of_length_le h]
def uE (f:DFs) (a:Int):aHf:=if jB f a=0 then⟨0,tV (aH f.inodes a)⟩else⟨jB f a,[]⟩
theorem aB4 {f:DFs}{a:Int} (h:¬jB f a=0):uE f a=⟨jB f a,[]⟩:=if_neg h
theorem aA3 {f:DFs}{a:Int} (h:jB f a=0):uE f a=⟨0,tV (aH f.inodes a)⟩:=if_pos h
def aBo (f:DFs) (a:Int):Prop:=jB f a=0∧(aH f.inodes a).length=0
instance (f:DFs) (a:Int):Decidable (aBo f a):=by unfold aBo;infer_instance
end Go.Proofs.YtmejbfmhaoilmaaGreat
/- What is proved: elements taken out of a slice of one's own, in place. No condition. -/
namespace Go.Proofs.YtmejbfmhaoilmaaGreat
open Go Go.RowKit
set_option linter.unusedVariables false
set_option linter.unusedSimpArgs false
theorem cH.sublist {l l':List Asn} (h:l'.Sublist l):∀{w:World}{S:Bs},cH l w S→cH l' w S:=by
  induction h with
  | slnil=>exact fun h=>h
  | cons c _ ih=>exact fun h=>ih h.drop
  | cons_cons c _ ih=>
    intro w S ⟨A,B,h1,h2,a,b,d⟩
    exact⟨A,B,h1,ih h2,a,b,d⟩
theorem sZ {css:List (List Value)}{n:Nat} (hl:∀c,c∈css→c.length=n) (i:Nat):(css.take i).flatten=css.flatten.take (i * n):=by
  induction css generalizing i with
  | nil=>simp
  | cons d css ih=>
    have hd:=hl d List.mem_cons_self
    cases i with
    | zero=>simp
    | succ i=>
      simp only [List.take_succ_cons,List.flatten_cons]
      rw [ih (fun c hc=>hl c (List.mem_cons_of_mem _ hc)) i,List.take_append,List.take_of_length_le (l:=d) (by rw [hd,Nat.succ_mul];omega),hd,Nat.succ_mul,Nat.add_sub_cancel]
theorem aAb {css:List (List Value)}{n:Nat} (hl:∀c,c∈css→c.length=n) (i:Nat):(css.drop i).flatten=css.flatten.drop (i * n):=by
  induction css generalizing i with
  | nil=>simp
  | cons d css ih=>
    have hd:=hl d List.mem_cons_self
    cases i with
    | zero=>simp
    | succ i=>
      simp only [List.drop_succ_cons,List.flatten_cons]
      rw [ih (fun c hc=>hl c (List.mem_cons_of_mem _ hc)) i,List.drop_append,List.drop_of_length_le (l:=d) (by rw [hd,Nat.succ_mul];omega),hd,List.nil_append,Nat.succ_mul,Nat.add_sub_cancel]
section
variable {P:Program}{T:eY}{Wd:World→Prop}{o:Oper}{N:Nat}{w0:World}{S0:Bs}{l l' lk:List Asn}
end
end Go.Proofs.YtmejbfmhaoilmaaGreat
/- What is proved: the library's contracts of Sort and Compact over rows of numbers, told of one's own slice. No condition. -/
namespace Go.Proofs.YtmejbfmhaoilmaaGreat
open Go Go.RowKit
open Go.Sort (putRow grow putCells mapBlock)
set_option linter.unusedVariables false
set_option linter.unusedSimpArgs false
theorem vY {k : IntKind} {w : World} {S : Bs} : ∀ {zs : List Int} {css : List (List Value)}, css.length = zs.length → cH (jL (gX k) zs css) w S → css = zs.map (fun z => [Value.int k z])
  | [],[],_,_=>rfl
  | z :: zs,c :: css,hl,h=>by
    have h1:(gX k).own w S z c:=h.head (c:=aG (gX k) z c)
    rw [vY (by simpa using hl) (h.drop (c:=aG (gX k) z c)),List.map_cons,h1.1]
  | [],_ :: _,hl,_=>by simp at hl
  | _ :: _,[],hl,_=>by simp at hl
theorem aAo {k : IntKind} {w : World} {S : Bs} : ∀ zs : List Int, cH (jL (gX k) zs (zs.map (fun z => [Value.int k z]))) w S
  | []=>trivial
  | z :: zs=>⟨fun _=>False,S,⟨rfl,trivial⟩,aAo zs,fun _ h=>h.elim,fun _ h=>h,fun _ h=>h.elim⟩
theorem aF6 {k:IntKind} (zs:List Int):(zs.map (fun z=> [Value.int k z])).flatten=zs.map (Value.int k):=by
  induction zs with
  | nil=>rfl
  | cons z zs ih=>simp [ih]
theorem own_holds {e by_:Nat}{w:World}{S:Bs}{zs:List Int}{v:Value} (h:(bN e by_ (gX .i64)).own w S zs [v]) (hp:0<zs.length):
    ∃g c,v= .slice (some ⟨g,0,none⟩) zs.length c∧zs.length≤c∧g<w.heap.size∧Go.Sort.Holds (Value.int .i64) w g 0 zs.toArray∧zs.length * by_≤140737488355328∧c≤9223372036854775807∧
      ∀(zs':List Int) (n:Nat) (os:Array Obj),zs'.length=zs.length→(bN e by_ (gX .i64)).own (grow (putRow (Value.int .i64) (Sort.ahead w n) g 0 zs'.toArray) os) S zs' [v]∧Fr w S (grow (putRow (Value.int .i64) (Sort.ahead w n) g 0 zs'.toArray) os):=by
  rcases h with ⟨A,h1,rfl⟩ |⟨g,c,css,h1,h2,h3,h4,h5,h6⟩
  · exact absurd hp (by simp)
  obtain rfl:v= .slice (some ⟨g,0,none⟩) zs.length c:=by simpa using h1
  obtain⟨S1,S2,⟨hg,cur,k1,k2,k3,k4⟩,hseq,a1,a2,a3⟩:=h6
  have hcss:=vY h5 hseq
  subst hcss
  rw [aF6] at k3 k4
  simp only [List.length_map] at k3 k4
  have hlt:g<w.heap.size:=(Array.getElem?_eq_some_iff.1 k1).1
  have hcell:∀j,j<zs.length→cur[j]? =some (.int .i64 (zs[j]!)):=fun j hj=>by
    have:(cur.toList.take zs.length)[j]? =(zs.map (Value.int .i64))[j]? :=by rw [k4]
    rw [List.getElem?_take,if_pos hj,List.getElem?_map,List.getElem?_eq_getElem hj] at this
    rw [Array.getElem?_toList] at this
    rw [this,getElem!_pos zs j hj]
    rfl
  refine⟨g,c,rfl,h2,hlt,fun j hj=>⟨?_,?_⟩,h4,h3,fun zs' n os hl=> ?_⟩
  · have hj' : j < zs.length := by simpa using hj
    rw [cell_of_row w g (0+j) cur e (0,0) k1,Nat.zero_add,hcell j hj']
    simp [getElem!_pos zs j hj',getElem!_pos zs.toArray j hj]
  · simp [World.frozen?,k1]
  · have hb:(grow (putRow (Value.int .i64) (Sort.ahead w n) g 0 zs'.toArray) os).heap[g]? =some (.cells (putCells (Value.int .i64) 0 zs'.toArray cur) e (0,0)):=by
      simp only [grow,putRow,mapBlock,Sort.ahead]
      rw [Array.getElem?_append_left (by simpa using hlt),Array.getElem?_modify,if_pos rfl,k1]
      rfl
    have ho:∀b,b<w.heap.size→b≠g→(grow (putRow (Value.int .i64) (Sort.ahead w n) g 0 zs'.toArray) os).heap[b]? =w.heap[b]? :=fun b hb hne=>by
      simp only [grow,putRow,mapBlock,Sort.ahead]
      rw [Array.getElem?_append_left (by simpa using hb),Array.getElem?_modify,if_neg (fun e=>hne e.symm)]
    have hsz:w.heap.size≤(grow (putRow (Value.int .i64) (Sort.ahead w n) g 0 zs'.toArray) os).heap.size:=by simp [grow,putRow,mapBlock,Sort.ahead]
    have hfr:Fr w S (grow (putRow (Value.int .i64) (Sort.ahead w n) g 0 zs'.toArray) os):=⟨rfl,rfl,rfl,hsz,fun b hb hn=>ho b hb (fun e=>hn (e ▸ a1 g hg))⟩
    refine⟨.inr ⟨g,c,zs'.map (fun z=> [Value.int .i64 z]),by rw [hl],by omega,h3,by rw [hl];exact h4,by simp,?_⟩,hfr⟩
    refine⟨S1,fun _=>False,⟨hg,_,hb,?_,?_,?_⟩,aAo zs',a1,fun _ h=>h.elim,fun _ _ h=>h⟩
    · simpa [putCells] using k2
    · rw [aF6]
      simp only [putCells,Array.size_mapIdx,List.length_map]
      omega
    · rw [aF6]
      apply List.ext_getElem?
      intro j
      rw [List.getElem?_take,List.length_map]
      split
      · rename_i hj
        have hjc:j<cur.size:=by omega
        rw [Array.getElem?_toList,putCells,Array.getElem?_mapIdx,Array.getElem?_eq_getElem hjc,Option.map_some,if_pos ⟨by omega,by simpa using hj⟩,List.getElem?_map,List.getElem?_eq_getElem hj,Option.map_some]
        simp [getElem!_pos zs'.toArray j (by simpa using hj)]
      · rw [List.getElem?_eq_none (by rw [List.length_map];omega)]
theorem aAx {e by_:Nat}{w:World}{S:Bs}{zs:List Int}{v:Value} (h:(bN e by_ (gX .i64)).own w S zs [v]) (hp:¬0<zs.length):zs= []∧∃A c,v= .slice A 0 c:=by
  have h0:zs= []:=List.length_eq_zero_iff.1 (by omega)
  subst h0
  obtain⟨A,c,h1,_⟩:=wW h
  exact⟨rfl,A,c,by simpa using h1⟩
theorem aG4 {P : Program} {f : FuncId} {e by_ : Nat} {w0 : World} {S0 : Bs} {zs : List Int} {v0 : Value}
    (h1:∀(blk off cap:Nat) (zs:List Int) (w:World),Go.Sort.Holds (Value.int .i64) w blk off zs.toArray→blk<w.heap.size→zs.length<4611686018427387904→Calls P f #[.slice (some ⟨blk,off,none⟩) zs.length cap] w fun e w'=>e= .returned (.tuple #[])∧∃n os,w'=grow (putRow (Value.int .i64) (Sort.ahead w n) blk off (zs.mergeSort fun x y=>decide (x≤y)).toArray) os)
    (h2:∀(p:Option Addr) (cap:Nat) (w:World),Calls P f #[.slice p 0 cap] w fun e w'=>e= .returned (.tuple #[])∧w'=w) (h8:8≤by_)
    (hs:cH [aG (bN e by_ (gX .i64)) zs [v0]] w0 S0):Calls P f #[v0] w0 (aJ w0 S0 (fun r l=>r= .tuple #[]∧l= [aG (bN e by_ (gX .i64)) (jX zs) [v0]])):=by
  have ho:(bN e by_ (gX .i64)).own w0 S0 zs [v0]:=hs.head (c:=aG (bN e by_ (gX .i64)) zs [v0])
  by_cases hp:0<zs.length
  · obtain ⟨g, c, rfl, g1, g2, g3, g4, g5, g6⟩ := own_holds ho hp
    have hb:zs.length * 8≤zs.length * by_:=Nat.mul_le_mul_left _ h8
    refine(h1 g 0 c zs w0 g3 g2 (by omega)).mono fun e' w' ⟨he,n,os,hw⟩=> ?_
    obtain⟨k1,k2⟩:=g6 (jX zs) n os (yF zs)
    have hw':w'=grow (putRow (Value.int .i64) (Sort.ahead w0 n) g 0 (jX zs).toArray) os:=hw
    subst hw'
    exact⟨_,_,he,⟨rfl,rfl⟩,S0,cH.one (c:=aG (bN e by_ (gX .i64)) (jX zs) _) k1,fun b hb=> .inl hb,k2⟩
  · obtain ⟨rfl, A, c, rfl⟩ := aAx ho hp
    refine(h2 A c w0).mono fun e' w' ⟨he,hw⟩=> ?_
    subst hw
    have e0:jX []= []:=by simp [jX]
    exact⟨_,_,he,⟨rfl,rfl⟩,S0,by rw [e0];exact hs,fun b hb=> .inl hb,Fr.refl _ _⟩
theorem aGa (w:World):grow w #[]=w:=by cases w;simp [grow]
theorem aCa {P : Program} {f : FuncId} {e by_ : Nat} {w0 : World} {S0 : Bs} {zs : List Int} {v0 : Value}
    (h1:∀(blk off cap:Nat) (zs:List Int) (w:World),Go.Sort.Holds (Value.int .i64) w blk off zs.toArray→zs.length≤9223372036854775807→zs.length≤cap→Calls P f #[.slice (some ⟨blk,off,none⟩) zs.length cap] w fun e w'=>e= .returned (.slice (some ⟨blk,off,none⟩) (Lib.compact zs).length cap)∧∃q,w'=putRow (Value.int .i64) (Sort.ahead w q) blk off (Lib.compact zs++List.replicate (zs.length - (Lib.compact zs).length) 0).toArray)
    (h2:∀(a:Option Addr) (cap:Nat) (w:World),Calls P f #[.slice a 0 cap] w fun e w'=>e= .returned (.slice a 0 cap)∧w'=w)
    (hs:cH [aG (bN e by_ (gX .i64)) zs [v0]] w0 S0):Calls P f #[v0] w0 (aJ w0 S0 (fun r l=>∃z:Option Addr×Nat,r= .slice z.1 (Lib.compact zs).length z.2∧l= [])):=by
  have ho:(bN e by_ (gX .i64)).own w0 S0 zs [v0]:=hs.head (c:=aG (bN e by_ (gX .i64)) zs [v0])
  by_cases hp:0<zs.length
  · obtain ⟨g, c, rfl, g1, g2, g3, g4, g5, g6⟩ := own_holds ho hp
    refine(h1 g 0 c zs w0 g3 (by omega) g1).mono fun e' w' ⟨he,q,hw⟩=> ?_
    obtain⟨k1,k2⟩:=g6 (Lib.compact zs++List.replicate (zs.length - (Lib.compact zs).length) 0) q #[] (by have:=aBt zs;simp;omega)
    have hw':w'=grow (putRow (Value.int .i64) (Sort.ahead w0 q) g 0 (Lib.compact zs++List.replicate (zs.length - (Lib.compact zs).length) 0).toArray) #[]:=by rw [hw,aGa]
    subst hw'
    exact⟨_,_,he,⟨(_,_),rfl,rfl⟩,S0,trivial,fun b hb=> .inl hb,k2⟩
  · obtain ⟨rfl, A, c, rfl⟩ := aAx ho hp
    refine(h2 A c w0).mono fun e' w' ⟨he,hw⟩=> ?_
    subst hw
    have e0:(Lib.compact ([]:List Int)).length=0:=rfl
    exact⟨_,_,he,⟨(A,c),by rw [e0],rfl⟩,S0,trivial,fun b hb=> .inl hb,Fr.refl _ _⟩
theorem Y.al {N:Nat}{w0:World}{S0:Bs}{F:Act→World→Prop}{T:eY}{l l':List Asn}{c c':Asn} (h:fK l c l') (e:c=c') (k:Y N w0 S0 F T (c' :: l')):Y N w0 S0 F T l:=by subst e;exact Y.take h k
theorem aB7 {α:Type}{K:Kd α}{e by_ n c:Nat}{xs:List α}{A:Option Addr} (hn:n≤xs.length) (w:World) (S:Bs) (h:cH [aG (bN e by_ K) xs [.slice A xs.length c]] w S):(aG (bN e by_ K) (xs.take n) [.slice A n c]).p w S:=by
  have hl:(xs.take n).length=n:=by rw [List.length_take];omega
  rcases(show(bN e by_ K).own w S xs [.slice A xs.length c] from h.head (c:=aG (bN e by_ K) xs _)) with ⟨A',h1,rfl⟩ |⟨g,c',css,h1,h2,h3,h4,h5,h6⟩
  · obtain rfl : n = 0 := by simpa using hn
    injection h1 with h1 _
    injection h1 with h1 h2 h3
    subst h3
    exact .inl ⟨A,rfl,rfl⟩
  · injection h1 with h1 _
    injection h1 with h1 _ h3'
    subst h1;subst h3'
    obtain⟨S1,S2,⟨hg,cur,k1,k2,k3,k4⟩,hseq,a1,a2,a3⟩:=h6
    have hlc:=oX h5 hseq
    have hft:=sZ hlc n
    refine .inr ⟨g,c,css.take n,by rw [hl],by omega,h3,?_,by rw [List.length_take,List.length_take,h5],?_⟩
    · rw [hl];exact Nat.le_trans (Nat.mul_le_mul_right _ hn) h4
    · refine ⟨S1, S2, ⟨hg, cur, k1, k2, ?_, ?_⟩, ?_, a1, a2, a3⟩
      · rw [hft,List.length_take];omega
      · rw [hft, List.length_take]
        have:cur.toList.take (min (n * K.sz) css.flatten.length)=(cur.toList.take css.flatten.length).take (n * K.sz):=by rw [List.take_take]
        rw [this,k4]
      · have : jL K (xs.take n) (css.take n) = (jL K xs css).take n := by simp [jL, List.take_zipWith]
        rw [this]
        exact cH.sublist (List.take_sublist _ _) hseq
theorem rV {α:Type}{K:Kd α}{e by_ n c:Nat}{xs:List α}{A:Option Addr} (hn:n≤xs.length) (w:World) (S:Bs) (h:cH [aG (bN e by_ K) xs [.slice A xs.length c]] w S):(aG (bN e by_ K) (xs.take n) [.slice A (xs.take n).length c]).p w S:=by
  have:=aB7 hn w S h
  rwa [show(xs.take n).length=n by rw [List.length_take];omega]
theorem WS.y {w0:World}{S0:Bs}{l l':List Asn}{α:Type}{K:Kd α}{e by_:Nat}{xs:List α}{A:Option Addr}{n c:Nat} (ht:fK l (aG (bN e by_ K) xs [.slice A n c]) l'):∀w,WS w0 S0 l w→n=xs.length∧n≤c∧c≤9223372036854775807∧n * by_≤140737488355328:=fun w hw=>by
  obtain⟨A',c',h,h1,h2,h3⟩:=WS.a ht w hw
  injection h with _ h4 h5
  subst h4;subst h5
  exact⟨rfl,h1,h2,h3⟩
section
variable {P:Program}{T:eY}{Wd:World→Prop}{o:Oper}
theorem nI {x:Operand}{t e:TypeId}{sz b n c:Nat}{z:Operand}{k:IntKind}{A:Option Addr} (ho:o.op= .slice t x none (some z) none) (ht:P.underlying t=some (.slice e)) (he:(P.info? e).map (·.size)=some sz) (hx:Val T x (.slice A n c)) (hz:Val T z (.int k (b:Int))) (h:b≤c):eU P o T Wd (.slice A b c):=by
  have:=aDq (a:=0) (b:=b) (Wd:=Wd) ho ht he hx (.inl ⟨rfl,rfl⟩) (.inr ⟨_,_,rfl,hz⟩) (by omega) h
  have e1:(if c=0 then A else A.map (·.add (0 * sz)))=A:=by
    split
    · rfl
    · cases A with
      | none=>rfl
      | some a=>simp [Addr.add]
  rw [e1] at this
  simpa using this
end
end Go.Proofs.YtmejbfmhaoilmaaGreat
/- What is proved: what can be reached in a tree, by a stack and by rounds, in plain Lean. No condition. -/
namespace Go.Proofs.YtmejbfmhaoilmaaGreat
open Go Go.RowKit
set_option linter.unusedVariables false
set_option linter.unusedSimpArgs false
inductive nR (xs : List aF) (r : Nat) : Nat → Prop
  | refl:nR xs r r
  | step {i q:Nat}{x:aF}{e:bV}:nR xs r i→xs[i]? =some x→x.ents[q]? =some e→nR xs r e.ino.toNat
noncomputable def aCn (xs:List aF) (r:Nat):Int→Bool:=fun a=> @decide (nR xs r a.toNat) (Classical.propDecidable _)
noncomputable def lZ (xs:List aF) (r:Nat):List Int:=cC (aCn xs r) xs.length
theorem wJ {xs:List aF}{r:Nat}{a:Int}:aCn xs r a=true↔nR xs r a.toNat:=by
  unfold aCn
  exact @decide_eq_true_iff _ (Classical.propDecidable _)
abbrev On (b:List Bool) (i:Nat):Prop:=b[i]? =some true
theorem nS {b:List Bool}{j i:Nat} (hj:j<b.length):On (b.set j true) i↔(i=j∨On b i):=by
  unfold On
  rw [List.getElem?_set]
  by_cases h:j=i
  · subst h;simp [hj]
  · rw [if_neg h]
    constructor
    · exact .inr
    · rintro (rfl | h2)
      · exact absurd rfl h
      · exact h2
theorem uD {xs:List aF}{r:Nat}{S:Nat→Prop} (h0:S r) (hc:∀(i q:Nat) x e,S i→xs[i]? =some x→x.ents[q]? =some e→S e.ino.toNat):∀i,nR xs r i→S i:=fun i h=>by
  induction h with
  | refl=>exact h0
  | step _ hx he ih=>exact hc _ _ _ _ ih hx he
structure Dfs (xs : List aF) (r : Nat) (b : List Bool) (op : List Int) : Prop where
  len:b.length=xs.length
  snd:∀i,On b i→nR xs r i
  opn:∀a,a∈op→(0≤a∧a<(xs.length:Int))∧nR xs r a.toNat
  top:On b r∨(r:Int)∈op
  cls:∀(i q:Nat) x e,On b i→xs[i]? =some x→x.ents[q]? =some e→On b e.ino.toNat∨e.ino∈op
theorem aGx {xs : List aF} {r : Nat} (hr : r < xs.length) : Dfs xs r (List.replicate xs.length false) [(r : Int)] where
  len:=by simp
  snd i h:=by
    exfalso
    unfold On at h
    rw [List.getElem?_replicate] at h
    split at h <;> simp at h
  opn a ha:=by
    obtain rfl:=List.mem_singleton.1 ha
    exact⟨by omega,by rw [Int.toNat_natCast];exact .refl⟩
  top:= .inr (List.mem_singleton.2 rfl)
  cls i q x e h:=by
    exfalso
    unfold On at h
    rw [List.getElem?_replicate] at h
    split at h <;> simp at h
theorem yX {α:Type}{op:List α}{a:α} (ha:op[op.length - 1]? =some a):op=op.take (op.length - 1)++ [a]:=by
  have:=kS ha
  rw [this,List.take_of_length_le]
  have:=(List.getElem?_eq_some_iff.1 ha).1
  omega
theorem aFl {xs:List aF}{r:Nat}{b:List Bool}{op:List Int}{a:Int} (h:Dfs xs r b op) (ha:op[op.length - 1]? =some a) (hs:On b a.toNat):Dfs xs r b (op.take (op.length - 1)):=by
  have he:=yX ha
  have hm:∀c,c∈op→c=a∨c∈op.take (op.length - 1):=fun c hc=>by
    rw [he] at hc
    rcases List.mem_append.1 hc with h1 | h1
    · exact .inr h1
    · exact .inl (List.mem_singleton.1 h1)
  refine⟨h.len,h.snd,fun c hc=>h.opn c (List.mem_of_mem_take hc),?_,fun i q x e hi hx hq=> ?_⟩
  · rcases h.top with h1 | h1
    · exact .inl h1
    · rcases hm _ h1 with h2 | h2
      · exact .inl (by rw [←h2,Int.toNat_natCast] at hs;exact hs)
      · exact .inr h2
  · rcases h.cls i q x e hi hx hq with h1 | h1
    · exact .inl h1
    · rcases hm _ h1 with h2 | h2
      · exact .inl (by rw [h2];exact hs)
      · exact .inr h2
def lJ (es:List bV) (k:Nat):List Int:=(es.take k).map (·.ino)
theorem aGv {op:List Int}{es:List bV}{k:Nat}{e:bV} (h:es[k]? =some e):(op++lJ es k)++ [e.ino]=op++lJ es (k+1):=by
  unfold lJ
  rw [←kS h,List.map_append,List.append_assoc]
  rfl
theorem aGb (op:List Int) (es:List bV):op=op++lJ es 0:=by simp [lJ]
theorem sU {es:List bV}{k:Nat}:(lJ es k).length≤es.length:=by
  unfold lJ;rw [List.length_map,List.length_take];omega
theorem aHv {xs:List aF}{r:Nat}{b:List Bool}{op:List Int}{a:Int}{x:aF}{k:Nat} (hI:bM xs=0) (hG:∀(j:Nat) x,xs[j]? =some x→qY xs x) (h:Dfs xs r b op) (ha:op[op.length - 1]? =some a) (hx:xs[a.toNat]? =some x) (hk:x.ents.length≤k):
    Dfs xs r (b.set a.toNat true) (op.take (op.length - 1)++lJ x.ents k):=by
  have he:=yX ha
  have hmem:a∈op:=by rw [he];exact List.mem_append.2 (.inr (List.mem_singleton.2 rfl))
  have hop:=h.opn a hmem
  have hlt:a.toNat<b.length:=by rw [h.len];omega
  have hm:∀c,c∈op→c=a∨c∈op.take (op.length - 1):=fun c hc=>by
    rw [he] at hc
    rcases List.mem_append.1 hc with h1 | h1
    · exact .inr h1
    · exact .inl (List.mem_singleton.1 h1)
  have hin:lJ x.ents k=x.ents.map (·.ino):=by unfold lJ;rw [List.take_of_length_le hk]
  refine⟨by rw [List.length_set];exact h.len,fun i hi=> ?_,fun c hc=> ?_,?_,fun i q y e hi hy hq=> ?_⟩
  · rcases (nS hlt).1 hi with rfl | h1
    · exact hop.2
    · exact h.snd i h1
  · rcases List.mem_append.1 hc with h1 | h1
    · exact h.opn c (List.mem_of_mem_take h1)
    · rw [hin] at h1
      obtain⟨e,hem,rfl⟩:=List.mem_map.1 h1
      obtain⟨q,hq⟩:=List.mem_iff_getElem?.1 hem
      have h2:=aAf (hG _ x hx q e hq)
      have h3:=pV (dK hI x (List.mem_of_getElem? hx)) q e hq
      exact⟨⟨h3.2.1,h2⟩,.step hop.2 hx hq⟩
  · rcases h.top with h1 | h1
    · exact .inl ((nS hlt).2 (.inr h1))
    · rcases hm _ h1 with h2 | h2
      · exact .inl ((nS hlt).2 (.inl (by rw [←h2,Int.toNat_natCast])))
      · exact .inr (List.mem_append.2 (.inl h2))
  · rcases (nS hlt).1 hi with rfl | h1
    · rw [hx] at hy
      obtain rfl:=Option.some.inj hy
      exact .inr (List.mem_append.2 (.inr (by rw [hin];exact List.mem_map.2 ⟨e,List.mem_of_getElem? hq,rfl⟩)))
    · rcases h.cls i q y e h1 hy hq with h2 | h2
      · exact .inl ((nS hlt).2 (.inr h2))
      · rcases hm _ h2 with h3 | h3
        · exact .inl ((nS hlt).2 (.inl (by rw [h3])))
        · exact .inr (List.mem_append.2 (.inl h3))
theorem aHt {xs:List aF}{r:Nat}{b:List Bool}{op:List Int} (h:Dfs xs r b op) (h0:op.length=0):∀i,On b i↔nR xs r i:=by
  obtain rfl:=List.length_eq_zero_iff.1 h0
  have hr:On b r:=h.top.elim id (fun h=>by cases h)
  exact fun i=>⟨h.snd i,uD hr (fun i q x e hi hx hq=>(h.cls i q x e hi hx hq).elim id (fun h=>by cases h)) i⟩
def aCc (b:List Bool):Nat:=b.count false
theorem wE : ∀ {b : List Bool} {j : Nat}, b[j]? = some false → aCc (b.set j true) + 1 = aCc b
  | [],j,h=>by simp at h
  | c :: b,0,h=>by
    simp at h
    subst h
    simp [aCc]
  | c :: b,j+1,h=>by
    have ih:=wE (b:=b) (j:=j) (by simpa using h)
    unfold aCc at ih ⊢
    simp only [List.set_cons_succ,List.count_cons]
    omega
theorem aF8 {b:List Bool}{j:Nat} (hj:j<b.length) (h:¬On b j):b[j]? =some false:=by
  unfold On at h
  rw [List.getElem?_eq_getElem hj] at h ⊢
  cases hb:b[j]
  · rfl
  · exact absurd (by rw [hb]) h
abbrev onP (b:List Bool):Int→Bool:=fun a=>b.getD a.toNat false
theorem aAh {b:List Bool}{k:Nat}{c:Bool} (h:b[k]? =some c):onP b (k:Int)=c:=by
  unfold onP
  rw [Int.toNat_natCast,List.getD_eq_getElem?_getD,h]
  rfl
theorem wU {xs:List aF}{r:Nat}{b:List Bool}{k:Nat} (h:∀i,On b i↔nR xs r i) (hl:b.length=xs.length) (hk:k=b.length):cC (onP b) k=lZ xs r:=by
  unfold lZ
  rw [hk,hl]
  refine wV fun a h1 h2=> ?_
  rw [Bool.eq_iff_iff,wJ,←h]
  unfold onP On
  rw [List.getD_eq_getElem?_getD]
  cases hb:b[a.toNat]? with
  | none=>simp
  | some c=>simp
abbrev LeB (b c:List Bool):Prop:=∀i,On b i→On c i
def onN (b:List Bool):Nat:=b.count true
theorem aIg (b:List Bool):onN b≤b.length:=List.count_le_length
theorem aCz : ∀ {b c : List Bool}, b.length = c.length → LeB b c → b = c ∨ onN b < onN c
  | [],[],_,_=> .inl rfl
  | x :: b,y :: c,hl,hle=>by
    have h1:LeB b c:=fun i hi=>by have:=hle (i+1) (by simpa [On] using hi);simpa [On] using this
    have h0:x=true→y=true:=fun hx=>by have:=hle 0 (by simp [On,hx]);simpa [On] using this
    rcases aCz (b:=b) (c:=c) (by simpa using hl) h1 with rfl | h2
    · cases x <;> cases y <;> simp [onN] at h0 ⊢
    · right
      unfold onN at h2 ⊢
      simp only [List.count_cons]
      cases x <;> cases y <;> simp at h0 ⊢ <;> omega
  | [],_ :: _,hl,_=>by simp at hl
  | _ :: _,[],hl,_=>by simp at hl
abbrev Clo (xs:List aF) (b:List Bool):Prop:=∀(i q:Nat) x e,On b i→xs[i]? =some x→x.ents[q]? =some e→On b e.ino.toNat
structure Rnd (xs : List aF) (k : Nat) (b : List Bool) : Prop where
  len:b.length=xs.length
  snd:∀i,On b i→nR xs 0 i
  top:On b 0
  prog:Clo xs b∨k+1≤onN b
structure Mid (xs : List aF) (b0 : List Bool) (i : Nat) (b : List Bool) : Prop where
  len:b.length=xs.length
  snd:∀i,On b i→nR xs 0 i
  le:LeB b0 b
  don:∀(j q:Nat) x e,j<i→On b0 j→xs[j]? =some x→x.ents[q]? =some e→On b e.ino.toNat
theorem aFz {xs:List aF}{k:Nat}{b:List Bool} (h:Rnd xs k b):Mid xs b 0 b:=⟨h.len,h.snd,fun _ h=>h,fun j _ _ _ hj=>absurd hj (Nat.not_lt_zero j)⟩
theorem aG7 {xs:List aF}{k i:Nat}{b0 b:List Bool} (h0:Rnd xs k b0) (h:Mid xs b0 i b) (hi:xs.length≤i):Rnd xs (k+1) b:=by
  refine⟨h.len,h.snd,h.le 0 h0.top,?_⟩
  have hd:∀(j q:Nat) x e,On b0 j→xs[j]? =some x→x.ents[q]? =some e→On b e.ino.toNat:=fun j q x e hj hx hq=>h.don j q x e (by have:=(List.getElem?_eq_some_iff.1 hx).1;omega) hj hx hq
  rcases aCz (h0.len.trans h.len.symm) h.le with rfl | hlt
  · exact .inl hd
  · rcases h0.prog with hc | hc
    · exfalso
      have:b0=b:=by
        have hle:LeB b b0:=fun j hj=>uD h0.top hc j (h.snd j hj)
        rcases aCz (h.len.trans h0.len.symm) hle with h1 | h1
        · exact h1.symm
        · omega
      subst this
      omega
    · exact .inr (by omega)
theorem aH7 {xs:List aF}{k:Nat}{b:List Bool} (h:Rnd xs k b) (hk:xs.length≤k):∀i,On b i↔nR xs 0 i:=by
  have hc:Clo xs b:=h.prog.elim id (fun h1=>by have:=aIg b;have:=h.len;omega)
  exact fun i=>⟨h.snd i,uD h.top hc i⟩
structure Inn (xs : List aF) (b0 : List Bool) (i : Nat) (x : aF) (q : Nat) (b : List Bool) : Prop where
  mid:Mid xs b0 i b
  don:∀(j:Nat) e,j<q→x.ents[j]? =some e→On b e.ino.toNat
theorem aF7 {xs:List aF}{b0 b:List Bool}{i:Nat}{x:aF} (h:Mid xs b0 i b):Inn xs b0 i x 0 b:=⟨h,fun j _ hj=>absurd hj (Nat.not_lt_zero j)⟩
theorem aHa {xs:List aF}{b0 b:List Bool}{i q:Nat}{x:aF}{e:bV} (h:Inn xs b0 i x q b) (hx:xs[i]? =some x) (he:x.ents[q]? =some e) (hb:On b i) (hl:e.ino.toNat<b.length):Inn xs b0 i x (q+1) (b.set e.ino.toNat true):=by
  have up:∀j,On b j→On (b.set e.ino.toNat true) j:=fun j hj=>(nS hl).2 (.inr hj)
  refine⟨⟨by rw [List.length_set];exact h.mid.len,fun j hj=> ?_,fun j hj=>up j (h.mid.le j hj),fun j p y d hj hb0 hy hd=>up _ (h.mid.don j p y d hj hb0 hy hd)⟩,fun j d hj hd=> ?_⟩
  · rcases (nS hl).1 hj with rfl | h1
    · exact .step (h.mid.snd i hb) hx he
    · exact h.mid.snd j h1
  · by_cases hq : j < q
    · exact up _ (h.don j d hq hd)
    · obtain rfl : j = q := by omega
      rw [he] at hd
      obtain rfl:=Option.some.inj hd
      exact(nS hl).2 (.inl rfl)
theorem aBq {xs:List aF}{b0 b:List Bool}{i q:Nat}{x:aF} (h:Inn xs b0 i x q b) (hx:xs[i]? =some x) (hq:On b i→x.ents.length≤q):Mid xs b0 (i+1) b:=by
  refine⟨h.mid.len,h.mid.snd,h.mid.le,fun j p y d hj hb0 hy hd=> ?_⟩
  by_cases hji:j<i
  · exact h.mid.don j p y d hji hb0 hy hd
  · obtain rfl : j = i := by omega
    rw [hx] at hy
    obtain rfl:=Option.some.inj hy
    have:=hq (h.mid.le _ hb0)
    exact h.don p d (by have:=(List.getElem?_eq_some_iff.1 hd).1;omega) hd
theorem aGg {xs:List aF} (h0:0<xs.length):Rnd xs 0 ((List.replicate xs.length false).set 0 true):=by
  have hl:0<(List.replicate xs.length false).length:=by simpa using h0
  refine⟨by simp,fun i hi=> ?_,(nS hl).2 (.inl rfl),.inr ?_⟩
  · rcases (nS hl).1 hi with rfl | h1
    · exact .refl
    · exfalso
      unfold On at h1
      rw [List.getElem?_replicate] at h1
      split at h1 <;> simp at h1
  · cases hn:xs.length with
    | zero=>omega
    | succ n=>simp [List.replicate_succ,onN]
theorem uV {f:DFs} (h:bL f=0):∀(j:Nat) x,f.inodes[j]? =some x→qY f.inodes x:=fun _ _ hx=>aHx (rI h).2.2.2 hx
theorem yY {f:DFs} (h:bL f=0):0<f.inodes.length:=(sJ (rI h).1).2.1
end Go.Proofs.YtmejbfmhaoilmaaGreat
/- What is proved: a whole file system's fault, the bytes of a file, in plain Lean. No condition. -/
namespace Go.Proofs.YtmejbfmhaoilmaaGreat
open Go Go.RowKit
set_option linter.unusedVariables false
set_option linter.unusedSimpArgs false
def dS (a b:Int):Int:=if a<b then a else b
theorem gB (a b:Int):dS a b≤a∧dS a b≤b∧(dS a b=a∨dS a b=b):=by unfold dS;split <;> omega
theorem aF1 {a b:Int} (h:a<b):dS a b=a:=if_pos h
theorem aGk {a b:Int} (h:¬a<b):dS a b=b:=if_neg h
theorem aIb (a b:Int):(if b<a then b else a)=dS a b:=by unfold dS;split <;> split <;> omega
def hZ (x : aF) (L : List Int) : Nat → List Int
  | 0=>L
  | q+1=>match x.blocks[q]? with | some b=>(hZ x L q).set b.toNat (dS 8 (x.size - ((q * 8:Nat):Int))) | none=>hZ x L q
def dN (xs : List aF) : Nat → List Int
  | 0=>List.replicate 20 0
  | k+1=>match xs[k]? with | some x=>hZ x (dN xs k) x.blocks.length | none=>dN xs k
theorem aEi {x:aF}{L:List Int}{q:Nat}{b:Int} (h:x.blocks[q]? =some b):(hZ x L q).set b.toNat (dS 8 (x.size - ((q * 8:Nat):Int)))=hZ x L (q+1):=by simp only [hZ,h]
theorem aB8 {xs:List aF}{k q:Nat}{x:aF} (h:xs[k]? =some x) (hq:x.blocks.length≤q) (hq2:q≤x.blocks.length):hZ x (dN xs k) q=dN xs (k+1):=by
  have:q=x.blocks.length:=by omega
  subst this
  simp only [dN,h]
theorem eF {x : aF} {L : List Int} : ∀ q, (hZ x L q).length = L.length
  | 0=>rfl
  | q+1=>by
    simp only [hZ]
    split
    · rw [List.length_set];exact eF q
    · exact eF q
theorem cF {xs : List aF} : ∀ k, (dN xs k).length = 20
  | 0=>by simp [dN]
  | k+1=>by
    simp only [dN]
    split
    · rw [eF];exact cF k
    · exact cF k
theorem aDp {x:aF} (h:cL x=0):0≤x.size∧x.size≤32:=by
  unfold cL at h
  split at h
  · split at h
    · exact absurd h (by decide)
    · split at h
      · unfold gJ at h
        split at h
        · rename_i h1;exact h1.2
        · exact absurd h (by decide)
      · omega
  · exact absurd h (by decide)
theorem aAj {x:aF} (h:cL x=0):0≤x.kind∧x.kind≤2:=by
  unfold cL at h
  split at h
  · assumption
  · exact absurd h (by decide)
abbrev qU (f:DFs):List Int:=dN f.inodes f.inodes.length
def mE (f:DFs):Prop:=∀(j:Nat) (b:List UInt8),f.data[j]? =some b→(qU f)[j]? =some (b.length:Int)
noncomputable instance (f:DFs):Decidable (mE f):=Classical.propDecidable _
theorem aC9 {f:DFs}{k:Nat}{b:List UInt8}{n:Int} (hb:f.data[k]? =some b) (hn:(qU f)[k]? =some n) (h:¬(b.length:Int)=n):¬mE f:=fun hd=>by
  have:=hd k b hb
  rw [hn] at this
  exact h (Option.some.inj this).symm
theorem sX {f:DFs}{k:Nat} (hk:f.data.length≤k) (ha:∀(j:Nat) (b:List UInt8),j<k→f.data[j]? =some b→(qU f)[j]? =some (b.length:Int)):mE f:=fun j b hb=>ha j b (by have:=(List.getElem?_eq_some_iff.1 hb).1;omega) hb
theorem aG5 {f:DFs}{k:Nat}{b:List UInt8}{n:Int} (ha:∀(j:Nat) (b:List UInt8),j<k→f.data[j]? =some b→(qU f)[j]? =some (b.length:Int)) (hb:f.data[k]? =some b) (hn:(qU f)[k]? =some n) (h:(b.length:Int)=n):∀(j:Nat) (b:List UInt8),j<k+1→f.data[j]? =some b→(qU f)[j]? =some (b.length:Int):=
  eC (q:=fun j (b:List UInt8)=>(qU f)[j]? =some (b.length:Int)) ha hb (by rw [hn,h])
structure lB (f : DFs) (j : Nat) (x : aF) : Prop where
  file:x.kind=1→x.links=(fQ f.inodes (j:Int):Int)
  root:x.kind=2→j=0→(fQ f.inodes (j:Int):Int)=0
  dir:x.kind=2→0<j→(fQ f.inodes (j:Int):Int)=1
  way:¬x.kind=0→(j:Int)∈lZ f.inodes 0
def kI (f:DFs):Prop:=∀(j:Nat) (x:aF),f.inodes[j]? =some x→lB f j x
noncomputable instance (f:DFs):Decidable (kI f):=Classical.propDecidable _
theorem gA {f:DFs}{k:Nat} (hk:f.inodes.length≤k) (ha:∀j x,j<k→f.inodes[j]? =some x→lB f j x):kI f:=fun j x hx=>ha j x (by have:=(List.getElem?_eq_some_iff.1 hx).1;omega) hx
noncomputable def uB (f:DFs):Int:=if kI f then 0 else 1
noncomputable def aDx (f:DFs):Int:=if mE f then 0 else 1
theorem kQ {f:DFs} (h:¬kI f):uB f=1:=if_neg h
theorem kN {f:DFs} (h:kI f):uB f=0:=if_pos h
theorem aD9 {f:DFs} (h:¬mE f):aDx f=1:=if_neg h
theorem aAi {f:DFs} (h:mE f):aDx f=0:=if_pos h
noncomputable def eQ (f:DFs):Int:=if bL f=0 then if kI f∧mE f then 0 else 1 else bL f
theorem mO {f:DFs} (h:¬bL f=0):eQ f=bL f:=if_neg h
theorem fR {f:DFs} (h:bL f=0) (h2:¬kI f∨¬mE f):eQ f=1:=by unfold eQ;rw [if_pos h,if_neg (fun hh=>h2.elim (fun k=>k hh.1) (fun k=>k hh.2))]
theorem kX {f:DFs} (h:bL f=0) (h2:kI f) (h3:mE f):eQ f=0:=by unfold eQ;rw [if_pos h,if_pos ⟨h2,h3⟩]
theorem mI {f:DFs} (h:bL f=0) (h2:¬uB f=0):eQ f=uB f:=by
  by_cases hl:kI f
  · exact absurd (kN hl) h2
  · rw [fR h (.inl hl),kQ hl]
theorem mS {f:DFs} (h:bL f=0) (h2:uB f=0):eQ f=aDx f:=by
  by_cases hl:kI f
  · by_cases hd : mE f
    · rw [kX h hl hd,aAi hd]
    · rw [fR h (.inr hd),aD9 hd]
  · rw [kQ hl] at h2;exact absurd h2 (by decide)
theorem mK {f:DFs} (h:eQ f=0):bL f=0:=by
  unfold eQ at h
  split at h
  · assumption
  · contradiction
theorem aMn {f:DFs} (h:eQ f=0):bL f=0∧kI f∧mE f:=by
  refine⟨mK h,?_⟩
  apply Classical.byContradiction
  intro hn
  by_cases hl:kI f
  · have:=fR (mK h) (.inr fun hd=>hn ⟨hl,hd⟩);omega
  · have:=fR (mK h) (.inl hl);omega
noncomputable def bX (f:DFs) (a:Int):Int:=if eQ f=0 then if bZ f.inodes.length a then if bF f.inodes a=2 then 9 else if bF f.inodes a=0 then 4 else 0 else 3 else eQ f
theorem eL {f:DFs}{a:Int} (h:¬eQ f=0):bX f a=eQ f:=if_neg h
theorem eK {f:DFs}{a:Int} (h:eQ f=0) (h2:¬bZ f.inodes.length a):bX f a=3:=by unfold bX;rw [if_pos h,if_neg h2]
theorem eJ {f:DFs}{a:Int} (h:eQ f=0) (h2:bZ f.inodes.length a) (h3:bF f.inodes a=2):bX f a=9:=by unfold bX;rw [if_pos h,if_pos h2,if_pos h3]
theorem eI {f:DFs}{a:Int} (h:eQ f=0) (h2:bZ f.inodes.length a) (h3:¬bF f.inodes a=2) (h4:bF f.inodes a=0):bX f a=4:=by unfold bX;rw [if_pos h,if_pos h2,if_neg h3,if_pos h4]
theorem gM {f:DFs}{a:Int} (h:eQ f=0) (h2:bZ f.inodes.length a) (h3:¬bF f.inodes a=2) (h4:¬bF f.inodes a=0):bX f a=0:=by unfold bX;rw [if_pos h,if_pos h2,if_neg h3,if_neg h4]
theorem oY {f:DFs}{a:Int} (h:bX f a=0):eQ f=0∧bZ f.inodes.length a∧¬bF f.inodes a=2∧¬bF f.inodes a=0:=by
  unfold bX at h
  split at h
  · split at h
    · split at h
      · exact absurd h (by decide)
      · split at h
        · exact absurd h (by decide)
        · rename_i h1 h2 h3 h4;exact⟨h1,h2,h3,h4⟩
    · exact absurd h (by decide)
  · contradiction
def pA (data:List (List UInt8)) (b:Int):List UInt8:=data.getD b.toNat []
def hU (data:List (List UInt8)) (bs:List Int) (k:Nat):List UInt8:=((bs.take k).map (pA data)).flatten
def eN (xs:List aF) (a:Int):List Int:=match xs[a.toNat]? with | some x=>x.blocks | none=> []
theorem lQ {xs:List aF}{a:Int}{j:Nat}{x:aF} (hx:xs[j]? =some x) (h:a=(j:Int)):eN xs a=x.blocks:=by
  subst h
  unfold eN
  rw [Int.toNat_natCast,hx]
def bB (f:DFs) (a:Int):List UInt8:=hU f.data (eN f.inodes a) (eN f.inodes a).length
theorem yD {data:List (List UInt8)}{bs:List Int}{k:Nat}{b:Int}{d:List UInt8} (hb:bs[k]? =some b) (hd:data[b.toNat]? =some d):hU data bs k++d=hU data bs (k+1):=by
  unfold hU
  rw [←kS hb,List.map_append,List.flatten_append]
  simp [pA,hd]
theorem uQ {data:List (List UInt8)}{bs:List Int}{k:Nat} (h:bs.length≤k):hU data bs k=hU data bs bs.length:=by
  unfold hU;rw [List.take_of_length_le h,List.take_length]
theorem qI {data:List (List UInt8)}{bs:List Int} (k:Nat) (h4:bs.length≤4) (h8:∀d,d∈data→d.length≤8):(hU data bs k).length≤32:=by
  unfold hU
  have h1:(bs.take k).length≤4:=by rw [List.length_take];omega
  have h2:∀l:List Int,((l.map (pA data)).flatten).length≤l.length * 8:=by
    intro l
    induction l with
    | nil=>simp
    | cons b l ih=>
      have:(pA data b).length≤8:=by
        unfold pA
        rw [List.getD_eq_getElem?_getD]
        cases hd:data[b.toNat]? with
        | none=>simp
        | some d=>simpa using h8 d (List.mem_of_getElem? hd)
      simp only [List.map_cons,List.flatten_cons,List.length_append,List.length_cons]
      omega
  have:=h2 (bs.take k)
  omega
theorem uH {f:DFs} (h:bL f=0):∀d,d∈f.data→d.length≤8:=fun d hd=>by
  have h1:=(rI h).2.1
  unfold xX at h1
  rw [List.any_eq_false] at h1
  have:=h1 d hd
  simp only [decide_eq_true_eq] at this
  omega
theorem kU {f:DFs} (h:bL f=0):f.data.length=20:=(sJ (rI h).1).2.2.2
noncomputable def bO (f:DFs) (a:Int):aCe:=if bX f a=0 then⟨0,bB f a⟩else⟨bX f a,[]⟩
theorem dL {f:DFs}{a:Int} (h:¬bX f a=0):bO f a=⟨bX f a,[]⟩:=if_neg h
theorem fZ {f:DFs}{a:Int} (h:bX f a=0):bO f a=⟨0,bB f a⟩:=if_pos h
end Go.Proofs.YtmejbfmhaoilmaaGreat
/- What is proved: arrays of whole numbers in memory and as values; the lesser of two numbers. No condition. -/
namespace Go.Proofs.YtmejbfmhaoilmaaGreat
open Go Go.RowKit
set_option linter.unusedVariables false
set_option linter.unusedSimpArgs false
section
variable {P:Program}{T:eY}{Wd:World→Prop}{o:Oper}{x y:Operand}{t e:TypeId}
theorem zT {sz n j:Nat}{ad:Addr}{k:IntKind}{i:Int} (ho:o.op= .indexAddr t x y) (ht:P.underlying t=some (.array n e)) (he:(P.info? e).map (·.size)=some sz) (hx:Val T x (.pointer (some ad))) (hy:Val T y (.int k i)) (hi:i=j) (hj:j<n):
    eU P o T Wd (.pointer (some (ad.add (j * sz)))):=fun a w ha _=>by
  subst hi
  obtain⟨i0,h1,h2⟩:=Option.map_eq_some_iff.1 he
  simp only [execOp,ho,hx a ha,hy a ha]
  simp [Instr.indexAt,asIntOf,run_underlying ht,Instr.sureAddr,sizeOf,typeInfo,h1,h2,hj]
theorem aC4 {n j:Nat}{L:List Int}{k:IntKind}{i z:Int} (ho:o.op= .index t x y) (ht:P.underlying t=some (.array n e)) (he:(P.info? e).map (·.size)=some 1) (hg:eO P e false) (hx:Val T x (.agg (L.map (Value.int .i64)).toArray)) (hy:Val T y (.int k i)) (hi:i=j) (hj:L[j]? =some z) (hl:L.length=n):
    eU P o T Wd (.int .i64 z):=fun a w ha _=>by
  subst hi
  obtain⟨i0,h1,h2⟩:=Option.map_eq_some_iff.1 he
  obtain⟨d,hd,hd2⟩:=hg.ex
  have hag:=mG hd w
  rw [hd2] at hag
  have hlt:j<n:=by rw [←hl];exact(List.getElem?_eq_some_iff.1 hj).1
  have hp:(part e (L.map (Value.int .i64)).toArray (j * 1)).run P w= .ok (.int .i64 z) w:=by
    unfold part
    rw [Sem.run_bind,hag]
    simp [hj]
  simp only [execOp,ho,hx a ha,hy a ha]
  simp [Instr.index,asIntOf,run_underlying ht,sizeOf,typeInfo,h1,h2,hlt]
  rw [Nat.mul_one] at hp
  simp [hp]
theorem aEl {ts:Array TypeId}{a b:Int}{k:IntKind} (ho:o.op= .call {callee:= .builtin .min,args:= #[x,y],argTypes:=ts}) (hx:Val T x (.int k a)) (hy:Val T y (.int k b)):eU P o T Wd (.int k (dS a b)):=fun ac w ha _=>by
  simp only [execOp,ho]
  simp [resolve,hx ac ha,hy ac ha,invoke,builtin,Builtin.min_,Builtin.min2,aIb]
end
theorem zL {v : Value} : ∀ {l : List Value} {n : Nat}, n < l.length → mT l n v (l.set n v)
  | _ :: _,0,_=> .z
  | _ :: _,n+1,h=> .s (zL (by simpa using h))
  | [],_,h=>by simp at h
theorem aJh {v:Value}{l:List Value}{n:Nat} (h:n<l.length):tO l n [v] (l.set n v):= .c (zL h) .n
theorem aD4 : ∀ {pre cs fl : List Value}, fl.length = cs.length → tO (pre ++ fl) pre.length cs (pre ++ cs)
  | pre,[],[],_=>by simpa using tO.n
  | pre,c :: cs,f :: fl,h=>by
    have h1:mT (pre++f :: fl) pre.length c ((pre++ [c])++fl):=by
      have:=zL (v:=c) (l:=pre++f :: fl) (n:=pre.length) (by simp)
      simpa [List.set_append] using this
    have h2:=aD4 (pre:=pre++ [c]) (cs:=cs) (fl:=fl) (by simpa using h)
    refine .c h1 ?_
    simpa using h2
  | _,[],_ :: _,h=>by simp at h
  | _,_ :: _,[],h=>by simp at h
theorem aE2 {cs fl:List Value} (h:fl.length=cs.length):tO fl 0 cs cs:=by simpa using aD4 (pre:= []) h
theorem map_set (L:List Int) (j:Nat) (z:Int):(L.map (Value.int .i64)).set j (.int .i64 z)=(L.set j z).map (Value.int .i64):=by rw [List.map_set]
theorem aIf {L:List Int}{j:Nat}{z:Int} (h:j<L.length):tO (L.map (Value.int .i64)) (j * 1) [.int .i64 z] ((L.set j z).map (Value.int .i64)):=by
  rw [Nat.mul_one,←map_set]
  exact aJh (by rwa [List.length_map])
theorem aGu (L:List Int):∀u,u∈L.map (Value.int .i64)→u.oneCell'=true:=fun u hu=>by
  obtain⟨z,_,rfl⟩:=List.mem_map.1 hu
  rfl
end Go.Proofs.YtmejbfmhaoilmaaGreat
/- What is proved: one element of a slice of one's own, taken out and put back; a part of a slice of one's own, read; a row's cells as a slice of structs. No condition. -/
namespace Go.Proofs.YtmejbfmhaoilmaaGreat
open Go Go.RowKit
set_option linter.unusedVariables false
set_option linter.unusedSimpArgs false
theorem aAd {α : Type} {K : Kd α} : ∀ {xs : List α} {css : List (List Value)} {j : Nat} {x : α} {c : List Value}, xs[j]? = some x → css[j]? = some c → jL K xs css = jL K (xs.take j) (css.take j) ++ aG K x c :: jL K (xs.drop (j + 1)) (css.drop (j + 1))
  | [],_,_,_,_,hx,_=>by simp at hx
  | _,[],_,_,_,_,hc=>by simp at hc
  | y :: xs,d :: css,0,x,c,hx,hc=>by
    simp at hx hc
    subst hx;subst hc
    rfl
  | y :: xs,d :: css,j+1,x,c,hx,hc=>by
    have ih:=aAd (K:=K) (xs:=xs) (css:=css) (j:=j) (x:=x) (c:=c) (by simpa using hx) (by simpa using hc)
    rw [aE1,ih]
    rfl
theorem eG {α:Type}{K:Kd α}{xs:List α}{css:List (List Value)}{j:Nat}{x:α}{c:List Value} (hx:xs[j]? =some x) (hc:css[j]? =some c) (w:World) (S:Bs) (h:(mN K xs css).p w S):cH [aG K x c,mN K (xs.take j) (css.take j),mN K (xs.drop (j+1)) (css.drop (j+1))] w S:=by
  have h1:cH (jL K xs css) w S:=h
  rw [aAd hx hc] at h1
  obtain⟨A,B,hA,⟨B1,B2,h2,h3,i1,i2,d1⟩,i,k,d⟩:=h1.split
  exact⟨B1,fun b=>A b∨B2 b,h2,⟨A,B2,hA,cH.one (c:=mN K _ _) h3,fun _ h=> .inl h,fun _ h=> .inr h,fun b ha hb=>d b ha (i2 b hb)⟩,fun b hb=>k b (i1 b hb),fun b hb=>hb.elim (i b) (fun h=>k b (i2 b h)),fun b hb hb2=>hb2.elim (fun h=>d b h (i1 b hb)) (d1 b hb)⟩
theorem aA5 {α:Type}{K:Kd α}{xs:List α}{css:List (List Value)}{j:Nat}{x:α}{c:List Value} (hx:xs[j]? =some x) (hc:css[j]? =some c) (w:World) (S:Bs) (h:cH [aG K x c,mN K (xs.take j) (css.take j),mN K (xs.drop (j+1)) (css.drop (j+1))] w S):(mN K xs css).p w S:=by
  obtain⟨B1,C,h2,⟨A,B2,hA,h3,i1,i2,d1⟩,i,k,d⟩:=h
  show cH (jL K xs css) w S
  rw [aAd hx hc]
  have h3':cH (jL K (xs.drop (j+1)) (css.drop (j+1))) w B2:=cH.head (c:=mN K _ _) h3
  exact cH.app hA ⟨B1,B2,h2,h3',fun _ h=> .inl h,fun _ h=> .inr h,fun b hb hb2=>d b hb (i2 b hb2)⟩ (S2:=fun b=>B1 b∨B2 b) (fun b hb=>k b (i1 b hb)) (fun b hb=>hb.elim (i b) (fun h=>k b (i2 b h))) (fun b ha hb=>hb.elim (fun h=>d b h (i1 b ha)) (d1 b ha))
theorem eT {α : Type} {K : Kd α} {e by_ : Nat} {xs : List α} {css css' : List (List Value)} {j : Nat} {x : α} {c : List Value} {v : Value} (hl : css.length = xs.length) (hj : j < xs.length) (he : css' = css.set j c) (w : World) (S : Bs)
    (h:cH [aG (bN e by_ (mL K.sz K.pos)) css' [v],aG K x c,mN K (xs.take j) (css.take j),mN K (xs.drop (j+1)) (css.drop (j+1))] w S):(aG (bN e by_ K) (xs.set j x) [v]).p w S:=by
  subst he
  obtain⟨A,B,hA,hB,i,k,d⟩:=h
  refine aEc (xs:=xs.set j x) (css:=css.set j c) (by rw [List.length_set,List.length_set];exact hl) w S ⟨A,B,hA,cH.one (c:=mN K _ _) (aA5 (j:=j) (x:=x) (c:=c) (by rw [List.getElem?_set_self hj]) (by rw [List.getElem?_set_self (by omega)]) w B ?_),i,k,d⟩
  rw [List.take_set_of_le (Nat.le_refl j),List.take_set_of_le (Nat.le_refl j),List.drop_set_of_lt (Nat.lt_succ_self j),List.drop_set_of_lt (Nat.lt_succ_self j)]
  exact hB
theorem eM {α : Type} {K : Kd α} {e by_ : Nat} {xs : List α} {css : List (List Value)} {j : Nat} {x : α} {c : List Value} {v : Value} (hl : css.length = xs.length) (hx : xs[j]? = some x) (hc : css[j]? = some c) (w : World) (S : Bs)
    (h:cH [aG (bN e by_ (mL K.sz K.pos)) css [v],aG K x c,mN K (xs.take j) (css.take j),mN K (xs.drop (j+1)) (css.drop (j+1))] w S):(aG (bN e by_ K) xs [v]).p w S:=by
  obtain⟨A,B,hA,hB,i,k,d⟩:=h
  exact aEc hl w S ⟨A,B,hA,cH.one (c:=mN K _ _) (aA5 hx hc w B hB),i,k,d⟩
theorem aHb {α:Type}{K:Kd α}{e by_ g sz:Nat}{x:α}{cs:List Value} (hsz:K.sz=sz) (hl:cs.length=sz) (hb:by_≤140737488355328) (w:World) (S:Bs) (h:cH [bW g e sz 1 cs,aG K x cs] w S):(aG (bN e by_ K) [x] [.slice (some ⟨g,0,none⟩) 1 1]).p w S:=by
  subst hsz
  obtain⟨A,B,hA,hB,i,k,d⟩:=h
  exact .inr ⟨g,1,[cs],rfl,Nat.le_refl _,by omega,by simpa using hb,rfl,A,B,by simpa using hA,⟨B,fun _=>False,cH.head (c:=aG K x cs) hB,trivial,fun _ h=>h,fun _ h=>h.elim,fun _ _ h=>h⟩,i,k,d⟩
theorem Tr.ptrpre {w0:World}{S0:Bs}{l':List Asn}{α:Type}{K:Kd α}{w:World}{S1:Bs}{lr:List Asn}{g e sz c:Nat}{ecs cs:List Value}{x:α} (tr:Tr w0 S0 w S1 lr) (tk:fK lr (bW g e sz c ecs) l') (hr:K.ro w (FF w S1) x cs) (hs:∀(i:Nat) (u:Value),cs[i]? =some u→ecs[i]? =some u):gK K w (FF w S1) ⟨g,0,none⟩ x:=by
  obtain⟨S2,hst,hsub⟩:=tr.all
  have h:=(hst.take tk).head
  refine⟨cs,hsub _ h.1,hr,fun i u hu=> ?_⟩
  rw [jE]
  exact qF h (hs i u hu)
theorem Tr.elw {w0:World}{S0:Bs}{α:Type}{K:Kd α}{w:World}{S1:Bs}{lr:List Asn}{B:Addr}{ecs:List Value}{x:α} (tr:Tr w0 S0 w S1 lr) (hF:FF w0 S0 B.block) (hc:∀(i:Nat) (u:Value),ecs[i]? =some u→w0.cell? (B.add i)=some u) (hr:K.ro w (FF w S1) x ecs):gK K w (FF w S1) B x:=
  ⟨ecs,(tr.wide _ hF).1,hr,fun i u hu=>(qX (by rw [kR];exact(tr.wide _ hF).2)).trans (hc i u hu)⟩
section
variable {P:Program}{T:eY}{Wd:World→Prop}{o:Oper}
theorem hP {x:Operand}{s f:Nat}{v u:Value} (ho:o.op= .field s x f) (hx:Val T x v) (hs:∀w,(Instr.field s v f).run P w= .ok u w):eU P o T Wd u:=fun a w ha _=>by
  simp only [execOp,ho,hx a ha];simp [hs w]
end
end Go.Proofs.YtmejbfmhaoilmaaGreat
/- What is proved: new trees, reading files, dropping them, in plain Lean. No condition. -/
namespace Go.Proofs.YtmejbfmhaoilmaaGreat
open Go Go.RowKit
set_option linter.unusedVariables false
set_option linter.unusedSimpArgs false
theorem lP {xs:List aF} (h:bM xs=0) (a:Int):∀b,b∈eN xs a→0≤b∧b≤19:=by
  unfold eN
  cases hx:xs[a.toNat]? with
  | none=>intro b hb;cases hb
  | some x=>exact(kB (dK h x (List.mem_of_getElem? hx))).2
theorem aE6 {xs:List aF} (h:bM xs=0) (a:Int):(eN xs a).length≤4:=by
  unfold eN
  cases hx:xs[a.toNat]? with
  | none=>simp
  | some x=>exact(kB (dK h x (List.mem_of_getElem? hx))).1
theorem mJ {f:DFs} (h:bL f=0) (a:Int):(bB f a).length≤32:=qI _ (aE6 (kH h) a) (uH h)
theorem rN (a b:Int):dS a b=dS b a:=by have:=gB a b;have:=gB b a;omega
def oU (L:List UInt8) (i n:Int):List UInt8:=iP L (dS i L.length).toNat (dS L.length (dS i L.length+n)).toNat
noncomputable def iR (f:DFs) (a i n:Int):aCe:=if bX f a=0 then if(0≤i∧i≤1000)∧(0≤n∧n≤100)then⟨0,oU (bB f a) i n⟩else⟨3,[]⟩else⟨bX f a,[]⟩
theorem zN {f:DFs}{a i n:Int} (h:¬bX f a=0):iR f a i n=⟨bX f a,[]⟩:=if_neg h
theorem oV {f:DFs}{a i n:Int} (h:bX f a=0) (h2:¬((0≤i∧i≤1000)∧(0≤n∧n≤100))):iR f a i n=⟨3,[]⟩:=by unfold iR;rw [if_pos h,if_neg h2]
theorem mY {f:DFs}{a i n:Int} (h:bX f a=0) (h2:(0≤i∧i≤1000)∧(0≤n∧n≤100)):iR f a i n=⟨0,oU (bB f a) i n⟩:=by unfold iR;rw [if_pos h,if_pos h2]
noncomputable abbrev yT (i n:Int):Int:=if(0≤i∧i≤1000)∧(0≤n∧n≤100)then 0 else 3
noncomputable def yZ (f:DFs) (a i n:Int):List UInt8:=if(0≤i∧i≤1000)∧(0≤n∧n≤100)then oU (bB f a) i n else []
theorem vG {i n:Int} (h:(0≤i∧i≤1000)∧(0≤n∧n≤100)):yT i n=0:=if_pos h
theorem vT {i n:Int} (h:¬((0≤i∧i≤1000)∧(0≤n∧n≤100))):yT i n=3:=if_neg h
theorem vN {f:DFs}{a i n:Int} (h:(0≤i∧i≤1000)∧(0≤n∧n≤100)):yZ f a i n=oU (bB f a) i n:=if_pos h
theorem vV {f:DFs}{a i n:Int} (h:¬((0≤i∧i≤1000)∧(0≤n∧n≤100))):yZ f a i n= []:=if_neg h
theorem aFp {f:DFs}{a i n:Int} (h:bX f a=0):iR f a i n=⟨yT i n,yZ f a i n⟩:=by
  by_cases h2:(0≤i∧i≤1000)∧(0≤n∧n≤100)
  · rw [mY h h2,vG h2,vN h2]
  · rw [oV h h2,vT h2,vV h2]
theorem oT {f:DFs}{a:Int}:(bO f a).code=bX f a:=by
  unfold bO;split
  · rename_i h;exact h.symm
  · rfl
theorem zR {f:DFs}{a:Int} (h:(bO f a).code=0):bX f a=0:=by rwa [oT] at h
theorem zB {f:DFs}{a:Int} (h:¬(bO f a).code=0):¬bX f a=0:=by rwa [oT] at h
theorem tT {f:DFs}{a:Int} (h:bX f a=0):(bO f a).bytes=bB f a:=by rw [fZ h]
theorem tP {f:DFs}{a i n:Int} (h:¬bX f a=0):iR f a i n=bO f a:=by rw [zN h,dL h]
def lO (data : List (List UInt8)) (bs : List Int) : Nat → List (List UInt8)
  | 0=>data
  | k+1=>match bs[k]? with | some b=>(lO data bs k).set b.toNat [] | none=>lO data bs k
theorem zQ {data:List (List UInt8)}{bs:List Int}{k:Nat}{b:Int} (h:bs[k]? =some b):(lO data bs k).set b.toNat []=lO data bs (k+1):=by simp only [lO,h]
theorem iI {data : List (List UInt8)} {bs : List Int} : ∀ k, (lO data bs k).length = data.length
  | 0=>rfl
  | k+1=>by
    simp only [lO]
    split
    · rw [List.length_set];exact iI k
    · exact iI k
abbrev gD (f:DFs) (a:Int):List (List UInt8):=lO f.data (eN f.inodes a) (eN f.inodes a).length
abbrev tL (f:DFs) (a:Int):DFs:=⟨f.inodes.set a.toNat ⟨0,0,0,[],[]⟩,gD f a⟩
end Go.Proofs.YtmejbfmhaoilmaaGreat
/- What is proved: names taken out of a directory, in plain Lean. No condition. -/
namespace Go.Proofs.YtmejbfmhaoilmaaGreat
open Go Go.RowKit
set_option linter.unusedVariables false
set_option linter.unusedSimpArgs false
abbrev aH0 {α:Type} (p:α→Bool):α→Bool:=fun e=> !p e
theorem lU {α:Type}{p:α→Bool}{xs:List α} (h:¬fG p xs= -1):∃i:Nat,fG p xs=(i:Int)∧i<xs.length∧(xs.take (i+1)).filter (aH0 p)=xs.take i:=by
  unfold fG at h ⊢
  cases hf:xs.findIdx? p with
  | none=>rw [hf] at h;exact absurd rfl h
  | some i=>
    obtain⟨hi,hp,hn⟩:=List.findIdx?_eq_some_iff_getElem.1 hf
    refine⟨i,rfl,hi,?_⟩
    rw [←kS (List.getElem?_eq_getElem hi),List.filter_append]
    have h1: [xs[i]].filter (aH0 p)= []:=by simp [aH0,hp]
    rw [h1,List.append_nil,List.filter_eq_self]
    intro x hx
    obtain⟨j,hj,rfl⟩:=List.mem_take_iff_getElem.1 hx
    have:=hn j (by omega)
    simpa [aH0] using this
def gT (xs:List aF) (a:Int) (es:List bV):List aF:=match xs[a.toNat]? with | some y=>xs.set a.toNat ⟨y.kind,y.links,y.size,y.blocks,es⟩ | none=>xs
def fY (xs:List aF) (a:Int) (n:Int):List aF:=match xs[a.toNat]? with | some y=>xs.set a.toNat ⟨y.kind,n,y.size,y.blocks,y.ents⟩ | none=>xs
def dM (xs:List aF) (a:Int):Int:=match xs[a.toNat]? with | some x=>x.links | none=>0
theorem xH {xs:List aF}{a:Int}{es:List bV}{j:Nat}{y:aF} (h:xs[j]? =some y) (hj:a=(j:Int)):xs.set j ⟨y.kind,y.links,y.size,y.blocks,es⟩=gT xs a es:=by
  subst hj;unfold gT;rw [Int.toNat_natCast,h]
theorem tH {xs:List aF}{a n:Int}{j:Nat}{y:aF} (h:xs[j]? =some y) (hj:a=(j:Int)):xs.set j ⟨y.kind,n,y.size,y.blocks,y.ents⟩=fY xs a n:=by
  subst hj;unfold fY;rw [Int.toNat_natCast,h]
theorem eB {xs:List aF}{a:Int}{j:Nat}{x:aF} (hx:xs[j]? =some x) (h:a=(j:Int)):dM xs a=x.links:=by
  subst h;unfold dM;rw [Int.toNat_natCast,hx]
theorem dI {xs:List aF}{a:Int}{es:List bV}:(gT xs a es).length=xs.length:=by
  unfold gT;split <;> simp
theorem dX {xs:List aF}{a n:Int}:(fY xs a n).length=xs.length:=by
  unfold fY;split <;> simp
theorem pG {xs:List aF}{a:Int}{es:List bV} (j:Nat):∀y,(gT xs a es)[j]? =some y→∃x,xs[j]? =some x∧y=⟨x.kind,x.links,x.size,x.blocks,if j=a.toNat then es else x.ents⟩:=fun y hy=>by
  unfold gT at hy
  cases h:xs[a.toNat]? with
  | none=>
    rw [h] at hy
    refine⟨y,hy,?_⟩
    rw [if_neg (fun e=>by subst e;rw [h] at hy;cases hy)]
  | some x=>
    rw [h] at hy
    simp only at hy
    rw [List.getElem?_set] at hy
    split at hy
    · rename_i e
      split at hy
      · obtain rfl := Option.some.inj hy
        refine⟨x,by rw [←e];exact h,by rw [if_pos e.symm]⟩
      · cases hy
    · rename_i e
      exact⟨y,hy,by rw [if_neg (fun e2=>e e2.symm)]⟩
theorem yN {xs:List aF}{a n:Int} (j:Nat):∀y,(fY xs a n)[j]? =some y→∃x,xs[j]? =some x∧y=⟨x.kind,if j=a.toNat then n else x.links,x.size,x.blocks,x.ents⟩:=fun y hy=>by
  unfold fY at hy
  cases h:xs[a.toNat]? with
  | none=>
    rw [h] at hy
    refine⟨y,hy,?_⟩
    rw [if_neg (fun e=>by subst e;rw [h] at hy;cases hy)]
  | some x=>
    rw [h] at hy
    simp only at hy
    rw [List.getElem?_set] at hy
    split at hy
    · rename_i e
      split at hy
      · obtain rfl := Option.some.inj hy
        refine⟨x,by rw [←e];exact h,by rw [if_pos e.symm]⟩
      · cases hy
    · rename_i e
      exact⟨y,hy,by rw [if_neg (fun e2=>e e2.symm)]⟩
theorem wT {xs:List aF}{a k:Int}{es:List bV}:bF (gT xs a es) k=bF xs k:=by
  unfold bF
  cases h:(gT xs a es)[k.toNat]? with
  | none=>
    rw [List.getElem?_eq_none_iff,dI] at h
    rw [List.getElem?_eq_none h]
  | some y=>
    obtain⟨x,hx,rfl⟩:=pG _ y h
    rw [hx]
theorem aB1 {xs:List aF}{a k:Int}{es:List bV}:dM (gT xs a es) k=dM xs k:=by
  unfold dM
  cases h:(gT xs a es)[k.toNat]? with
  | none=>
    rw [List.getElem?_eq_none_iff,dI] at h
    rw [List.getElem?_eq_none h]
  | some y=>
    obtain⟨x,hx,rfl⟩:=pG _ y h
    rw [hx]
theorem tG {xs:List aF}{a k n:Int}:eN (fY xs a n) k=eN xs k:=by
  unfold eN
  cases h:(fY xs a n)[k.toNat]? with
  | none=>
    rw [List.getElem?_eq_none_iff,dX] at h
    rw [List.getElem?_eq_none h]
  | some y=>
    obtain⟨x,hx,rfl⟩:=yN _ y h
    rw [hx]
theorem rB {α : Type} (f : α → Nat) : ∀ {xs : List α} {i : Nat} {x y : α}, xs[i]? = some x → gS f (xs.set i y) + f x = gS f xs + f y
  | [],_,_,_,h=>by simp at h
  | z :: xs,0,x,y,h=>by simp at h;subst h;simp only [List.set_cons_zero,gS];omega
  | z :: xs,i+1,x,y,h=>by
    have:=rB f (xs:=xs) (i:=i) (x:=x) (y:=y) (by simpa using h)
    simp only [List.set_cons_succ,gS];omega
theorem aB0 {xs:List aF}{a k n:Int}:fQ (fY xs a n) k=fQ xs k:=by
  unfold fY
  split
  · rename_i y hy
    have:=rB (gO k) (y:=⟨y.kind,n,y.size,y.blocks,y.ents⟩) hy
    unfold fQ
    have e:gO k ⟨y.kind,n,y.size,y.blocks,y.ents⟩=gO k y:=rfl
    omega
  · rfl
def eX (es:List bV) (i:Nat):Int:=match es[i]? with | some e=>e.ino | none=> -1
theorem nF {es:List bV}{i:Nat}{e:bV} (h:es[i]? =some e):eX es i=e.ino:=by unfold eX;rw [h]
abbrev dJ (f:DFs) (a:Int) (es:List bV):DFs:=⟨gT f.inodes a es,f.data⟩
def iF (f:DFs) (k:Int):DFs:=if bF f.inodes k=1 then if 1<dM f.inodes k then⟨fY f.inodes k (dM f.inodes k - 1),f.data⟩else if fQ f.inodes k=0 then tL f k else f else f
theorem tK {f:DFs}{k:Int} (h:¬bF f.inodes k=1):iF f k=f:=if_neg h
theorem tX {f:DFs}{k:Int} (h:bF f.inodes k=1) (h2:1<dM f.inodes k):iF f k=⟨fY f.inodes k (dM f.inodes k - 1),f.data⟩:=by unfold iF;rw [if_pos h,if_pos h2]
theorem nP {f:DFs}{k:Int} (h:bF f.inodes k=1) (h2:¬1<dM f.inodes k) (h3:fQ f.inodes k=0):iF f k=tL f k:=by unfold iF;rw [if_pos h,if_neg h2,if_pos h3]
theorem tC {f:DFs}{k:Int} (h:bF f.inodes k=1) (h2:¬1<dM f.inodes k) (h3:¬fQ f.inodes k=0):iF f k=f:=by unfold iF;rw [if_pos h,if_neg h2,if_neg h3]
theorem oO {f:DFs}{k n:Int}:tL ⟨fY f.inodes k n,f.data⟩ k=tL f k:=by
  have h:(fY f.inodes k n).set k.toNat ⟨0,0,0,[],[]⟩=f.inodes.set k.toNat ⟨0,0,0,[],[]⟩:=by
    unfold fY
    split
    · rw [List.set_set]
    · rfl
  simp only [tL,gD,h,tG]
theorem aC3 {xs:List aF}{k:Int}:fY xs k (dM xs k)=xs:=by
  unfold fY dM
  cases h:xs[k.toNat]? with
  | none=>rfl
  | some y=>
    obtain⟨hk,rfl⟩:=List.getElem?_eq_some_iff.1 h
    exact List.set_getElem_self hk
theorem aAt {xs:List aF}{k m n:Int}:fY (fY xs k m) k n=fY xs k n:=by
  unfold fY
  cases h:xs[k.toNat]? with
  | none=>simp only [h]
  | some y=>
    have hk:=(List.getElem?_eq_some_iff.1 h).1
    simp only [List.getElem?_set_self hk,List.set_set]
theorem tS {es:List bV}{s:ByteArray}{ix:Nat} (h:fG (dH s) es=(ix:Int)):jJ es s=eX es ix:=by
  have hr:=gP (dH s) es
  obtain⟨e,he⟩:=aI (xs:=es) (j:=ix) (by omega)
  rw [nF he]
  exact tW (by omega) (by rw [h,Int.toNat_natCast];exact he)
theorem aBp {es:List bV}{s:ByteArray} (h:¬jJ es s<0):∃ix:Nat,fG (dH s) es=(ix:Int):=by
  by_cases h2:fG (dH s) es<0
  · rw [rM h2] at h;exact absurd (by decide) h
  · exact⟨(fG (dH s) es).toNat,by omega⟩
structure vJ (f : DFs) (k : Int) : Prop where
  p:bZ f.inodes.length k
  d:f.data.length=20
  b:∀b,b∈eN f.inodes k→0≤b∧b≤19
  l:fQ f.inodes k≤60
  k:bF f.inodes k=1→1≤dM f.inodes k∧dM f.inodes k≤60
theorem aE9 {f:DFs} (ht:bL f=0) {a:Int}{i:Nat}{e:bV} (h:(aH f.inodes a)[i]? =some e):bZ f.inodes.length e.ino:=by
  unfold aH at h
  cases hx:f.inodes[a.toNat]? with
  | none=>rw [hx] at h;simp at h
  | some x=>
    rw [hx] at h
    simp only at h
    have h1:=aAf (uV ht _ x hx i e h)
    have h2:=pV (dK (kH ht) x (List.mem_of_getElem? hx)) i e h
    exact⟨h2.2.1,by omega⟩
theorem yG {f:DFs} (ht:bL f=0) {a:Int}{i:Nat} (h:i<(aH f.inodes a).length):bZ f.inodes.length (eX (aH f.inodes a) i):=by
  obtain⟨e,he⟩:=aI h
  rw [nF he]
  exact aE9 ht he
theorem wK {f:DFs} (ht:bL f=0) {a:Int}{s:ByteArray} (h:¬jJ (aH f.inodes a) s<0):bZ f.inodes.length (jJ (aH f.inodes a) s):=by
  obtain⟨ix,hi⟩:=aBp h
  have hr:=gP (dH s) (aH f.inodes a)
  rw [tS hi]
  exact yG ht (by omega)
theorem aEv {f:DFs}{k n:Int} (h:vJ f k):bZ (fY f.inodes k n).length k∧∀b,b∈eN (fY f.inodes k n) k→0≤b∧b≤19:=⟨by rw [dX];exact h.p,by rw [tG];exact h.b⟩
end Go.Proofs.YtmejbfmhaoilmaaGreat
/- What is proved: the bytes of a file, set anew, in plain Lean. No condition. -/
namespace Go.Proofs.YtmejbfmhaoilmaaGreat
open Go Go.RowKit
set_option linter.unusedVariables false
set_option linter.unusedSimpArgs false
def mF (L:List UInt8) (k:Nat):List UInt8:=iP L (k * 8) (min ((k+1) * 8) L.length)
def oB (data : List (List UInt8)) (bs : List Int) (L : List UInt8) : Nat → List (List UInt8)
  | 0=>data
  | k+1=>match bs[k]? with | some b=>(oB data bs L k).set b.toNat (mF L k) | none=>oB data bs L k
theorem uC {data:List (List UInt8)}{bs:List Int}{L:List UInt8}{k:Nat}{b:Int} (h:bs[k]? =some b):(oB data bs L k).set b.toNat (mF L k)=oB data bs L (k+1):=by simp only [oB,h]
theorem oA {data : List (List UInt8)} {bs : List Int} {L : List UInt8} : ∀ k, (oB data bs L k).length = data.length
  | 0=>rfl
  | k+1=>by
    simp only [oB]
    split
    · rw [List.length_set];exact oA k
    · exact oA k
def qH (xs:List aF) (a:Int) (n:Int) (ws:List Int):List aF:=match xs[a.toNat]? with | some y=>xs.set a.toNat ⟨y.kind,y.links,n,ws,y.ents⟩ | none=>xs
theorem aBd {xs:List aF}{a n:Int}{ws:List Int}{j:Nat}{y:aF} (h:xs[j]? =some y) (hj:a=(j:Int)):xs.set j ⟨y.kind,y.links,n,ws,y.ents⟩=qH xs a n ws:=by
  subst hj;unfold qH;rw [Int.toNat_natCast,h]
abbrev kK (f:DFs) (a:Int) (L:List UInt8) (ws:List Int):DFs:=⟨qH f.inodes a L.length ws,oB (gD f a) ws L ws.length⟩
abbrev cY (f:DFs) (L:List UInt8) (busy:List Int):jM:=hY f.inodes busy (((L.length:Int)+7) / 8)
def zY (f:DFs) (a:Int) (L:List UInt8) (busy:List Int):DFs:=if(cY f L busy).code=0 then kK f a L (cY f L busy).list else f
theorem aFk {f:DFs}{a:Int}{L:List UInt8}{busy:List Int} (h:¬(cY f L busy).code=0):zY f a L busy=f:=if_neg h
theorem aCm {f:DFs}{a:Int}{L:List UInt8}{busy:List Int} (h:(cY f L busy).code=0):zY f a L busy=kK f a L (cY f L busy).list:=if_pos h
theorem vQ {xs:List aF}{busy:List Int}{n:Int} (h:(hY xs busy n).code=0):(∀b,b∈(hY xs busy n).list→0≤b∧b≤19)∧((hY xs busy n).list.length:Int)=n:=by
  unfold hY at h ⊢
  split
  · rename_i h1
    rw [if_pos h1] at h
    split
    · rename_i h2;rw [if_pos h2] at h;exact absurd h (by decide)
    · rename_i h2
      refine⟨fun b hb=> ?_,by simp only [List.length_take];omega⟩
      have:=(pX.1 (List.mem_of_mem_take hb)).1
      omega
  · rename_i h1;rw [if_neg h1] at h;exact absurd h (by decide)
noncomputable abbrev iX (f:DFs) (a:Int) (busy:List Int):Int:=if bX f a=0 then gW busy else bX f a
theorem aDy {f:DFs}{a:Int}{busy:List Int} (h:¬bX f a=0):iX f a busy=bX f a:=if_neg h
theorem aDb {f:DFs}{a:Int}{busy:List Int} (h:bX f a=0):iX f a busy=gW busy:=if_pos h
theorem wOk {f:DFs}{a:Int}{busy:List Int} (h:iX f a busy=0):bX f a=0∧gW busy=0:=by
  unfold iX at h
  split at h
  · rename_i h1;exact⟨h1,h⟩
  · contradiction
def sB (f:DFs) (a:Int) (L:List UInt8) (busy:List Int):RFs:=if(L.length:Int)≤32 then if(cY f L busy).code=0 then⟨0,kK f a L (cY f L busy).list⟩else⟨(cY f L busy).code,⟨[],[]⟩⟩else⟨2,⟨[],[]⟩⟩
theorem xM {f:DFs}{a:Int}{L:List UInt8}{busy:List Int} (h:¬(L.length:Int)≤32):sB f a L busy=⟨2,⟨[],[]⟩⟩:=if_neg h
theorem uF {f:DFs}{a:Int}{L:List UInt8}{busy:List Int} (h:(L.length:Int)≤32) (h2:¬(cY f L busy).code=0):sB f a L busy=⟨(cY f L busy).code,⟨[],[]⟩⟩:=by unfold sB;rw [if_pos h,if_neg h2]
theorem tZ {f:DFs}{a:Int}{L:List UInt8}{busy:List Int} (h:(L.length:Int)≤32) (h2:(cY f L busy).code=0):sB f a L busy=⟨0,kK f a L (cY f L busy).list⟩:=by unfold sB;rw [if_pos h,if_pos h2]
def fsR (f:DFs) (c:Int):RFs:=if c=0 then⟨0,f⟩else⟨c,⟨[],[]⟩⟩
theorem aDt {f:DFs}{c:Int} (h:c=0):fsR f c=⟨0,f⟩:=if_pos h
theorem aBv {f:DFs}{c:Int} (h:¬c=0):fsR f c=⟨c,⟨[],[]⟩⟩:=if_neg h
theorem aJl {f:DFs}{a:Int}{L:List UInt8}{busy:List Int} (h:(L.length:Int)≤32):sB f a L busy=fsR (zY f a L busy) (cY f L busy).code:=by
  by_cases h2:(cY f L busy).code=0
  · rw [tZ h h2,aCm h2,aDt h2]
  · rw [uF h h2,aBv h2]
def lA (L:List UInt8) (n:Int):List UInt8:=L++List.replicate (n.toNat - L.length) 0
theorem aCt (L:List UInt8):L=L++List.replicate 0 0:=by simp
theorem aC1 {L:List UInt8}{k:Nat}:(L++List.replicate k (0:UInt8))++ [0]=L++List.replicate (k+1) 0:=by rw [List.append_assoc,←List.replicate_succ']
theorem tB {L:List UInt8}{k:Nat}:(L++List.replicate k (0:UInt8)).length=L.length+k:=by simp
theorem wS {L:List UInt8}{n:Int}{k:Nat} (h1:k≤n.toNat - L.length) (h2:¬((L++List.replicate k (0:UInt8)).length:Int)<n):L++List.replicate k 0=lA L n:=by
  rw [tB] at h2
  unfold lA
  rw [show k=n.toNat - L.length by omega]
theorem kP {L:List UInt8}{n:Int}:(lA L n).length=L.length+(n.toNat - L.length):=by simp [lA]
noncomputable def pF (f:DFs) (a n:Int) (busy:List Int):RFs:=if iX f a busy=0 then if 0≤n∧n≤32 then sB f a ((lA (bB f a) n).take n.toNat) busy else⟨3,⟨[],[]⟩⟩else⟨iX f a busy,⟨[],[]⟩⟩
theorem aCp {f:DFs}{a n:Int}{busy:List Int} (h:¬iX f a busy=0):pF f a n busy=⟨iX f a busy,⟨[],[]⟩⟩:=if_neg h
theorem aCv {f:DFs}{a n:Int}{busy:List Int} (h:iX f a busy=0) (h2:¬(0≤n∧n≤32)):pF f a n busy=⟨3,⟨[],[]⟩⟩:=by unfold pF;rw [if_pos h,if_neg h2]
theorem aCq {f:DFs}{a n:Int}{busy:List Int} (h:iX f a busy=0) (h2:0≤n∧n≤32):pF f a n busy=sB f a ((lA (bB f a) n).take n.toNat) busy:=by unfold pF;rw [if_pos h,if_pos h2]
def sC (L:List UInt8) (i:Nat) (ys:List UInt8) (q:Nat):List UInt8:=L.take i++ys.take q++L.drop (i+q)
theorem aJi (L:List UInt8) (i:Nat) (ys:List UInt8):L=sC L i ys 0:=by simp [sC]
theorem aB5 {L:List UInt8}{i q:Nat}{ys:List UInt8} (h:i+q≤L.length) (h2:q≤ys.length):(sC L i ys q).length=L.length:=by
  simp only [sC,List.length_append,List.length_take,List.length_drop];omega
theorem aF5 {L:List UInt8}{i q:Nat}{ys:List UInt8}{y:UInt8} (h:ys[q]? =some y) (hl:i+q<L.length):(sC L i ys q).set (i+q) y=sC L i ys (q+1):=by
  have hq:=(List.getElem?_eq_some_iff.1 h).1
  unfold sC
  have h1:(L.take i++ys.take q).length=i+q:=by rw [List.length_append,List.length_take,List.length_take];omega
  rw [List.set_append_right _ _ (by omega),h1,Nat.sub_self,List.drop_eq_getElem_cons hl,List.set_cons_zero,←kS h]
  simp [List.append_assoc,Nat.add_assoc]
theorem aGl {L:List UInt8}{i q:Nat}{ys:List UInt8} (h:ys.length≤q) (h2:q≤ys.length):sC L i ys q=sC L i ys ys.length:=by rw [show q=ys.length by omega]
abbrev fO (f:DFs) (a i:Int) (ys:List UInt8):List UInt8:=sC (lA (bB f a) (i+ys.length)) i.toNat ys ys.length
noncomputable def aU (f:DFs) (a i:Int) (ys:List UInt8) (busy:List Int):RFs:=
  if iX f a busy=0 then if 0≤i∧i≤1000 then if 32<i+ys.length then⟨2,⟨[],[]⟩⟩else if(ys.length:Int)=0 then⟨0,f⟩else sB f a (fO f a i ys) busy else⟨3,⟨[],[]⟩⟩else⟨iX f a busy,⟨[],[]⟩⟩
theorem nE {f:DFs}{a i:Int}{ys:List UInt8}{busy:List Int} (h:¬iX f a busy=0):aU f a i ys busy=⟨iX f a busy,⟨[],[]⟩⟩:=if_neg h
theorem oD {f:DFs}{a i:Int}{ys:List UInt8}{busy:List Int} (h:iX f a busy=0) (h2:¬(0≤i∧i≤1000)):aU f a i ys busy=⟨3,⟨[],[]⟩⟩:=by unfold aU;rw [if_pos h,if_neg h2]
theorem oI {f:DFs}{a i:Int}{ys:List UInt8}{busy:List Int} (h:iX f a busy=0) (h2:0≤i∧i≤1000) (h3:32<i+ys.length):aU f a i ys busy=⟨2,⟨[],[]⟩⟩:=by unfold aU;rw [if_pos h,if_pos h2,if_pos h3]
theorem oE {f:DFs}{a i:Int}{ys:List UInt8}{busy:List Int} (h:iX f a busy=0) (h2:0≤i∧i≤1000) (h3:¬32<i+ys.length) (h4:(ys.length:Int)=0):aU f a i ys busy=⟨0,f⟩:=by unfold aU;rw [if_pos h,if_pos h2,if_neg h3,if_pos h4]
theorem oF {f:DFs}{a i:Int}{ys:List UInt8}{busy:List Int} (h:iX f a busy=0) (h2:0≤i∧i≤1000) (h3:¬32<i+ys.length) (h4:¬(ys.length:Int)=0):aU f a i ys busy=sB f a (fO f a i ys) busy:=by unfold aU;rw [if_pos h,if_pos h2,if_neg h3,if_neg h4]
theorem uA {f:DFs}{a i:Int}{ys:List UInt8} (h:0≤i):(fO f a i ys).length=(bB f a).length+((i+ys.length).toNat - (bB f a).length):=by
  rw [fO,aB5 (by rw [kP];omega) (Nat.le_refl _),kP]
def wrC (f:DFs) (a i:Int) (ys:List UInt8) (busy:List Int):Int:=if 0≤i∧i≤1000 then if 32<i+ys.length then 2 else if(ys.length:Int)=0 then 0 else(cY f (fO f a i ys) busy).code else 3
def wrQ (f:DFs) (a i:Int) (ys:List UInt8) (busy:List Int):DFs:=if 0≤i∧i≤1000 then if 32<i+ys.length then f else if(ys.length:Int)=0 then f else zY f a (fO f a i ys) busy else f
theorem xU {f:DFs}{a i:Int}{ys:List UInt8}{busy:List Int} (h:¬(0≤i∧i≤1000)):wrC f a i ys busy=3∧wrQ f a i ys busy=f:=⟨if_neg h,if_neg h⟩
theorem yA {f:DFs}{a i:Int}{ys:List UInt8}{busy:List Int} (h:0≤i∧i≤1000) (h2:32<i+ys.length):wrC f a i ys busy=2∧wrQ f a i ys busy=f:=by unfold wrC wrQ;rw [if_pos h,if_pos h2,if_pos h,if_pos h2];exact⟨rfl,rfl⟩
theorem xT {f:DFs}{a i:Int}{ys:List UInt8}{busy:List Int} (h:0≤i∧i≤1000) (h2:¬32<i+ys.length) (h3:(ys.length:Int)=0):wrC f a i ys busy=0∧wrQ f a i ys busy=f:=by unfold wrC wrQ;rw [if_pos h,if_neg h2,if_pos h3,if_pos h,if_neg h2,if_pos h3];exact⟨rfl,rfl⟩
theorem xW {f:DFs}{a i:Int}{ys:List UInt8}{busy:List Int} (h:0≤i∧i≤1000) (h2:¬32<i+ys.length) (h3:¬(ys.length:Int)=0):wrC f a i ys busy=(cY f (fO f a i ys) busy).code∧wrQ f a i ys busy=zY f a (fO f a i ys) busy:=by unfold wrC wrQ;rw [if_pos h,if_neg h2,if_neg h3,if_pos h,if_neg h2,if_neg h3];exact⟨rfl,rfl⟩
theorem aB3 {f:DFs}{a i:Int}{ys:List UInt8}{busy:List Int} (h:iX f a busy=0) (hf:(bB f a).length≤32):aU f a i ys busy=fsR (wrQ f a i ys busy) (wrC f a i ys busy):=by
  by_cases h1:0≤i∧i≤1000
  · by_cases h2 : 32 < i + ys.length
    · rw [oI h h1 h2,(yA h1 h2).1,(yA h1 h2).2,aBv (by decide)]
    · by_cases h3 : (ys.length : Int) = 0
      · rw [oE h h1 h2 h3,(xT h1 h2 h3).1,(xT h1 h2 h3).2,aDt rfl]
      · rw [oF h h1 h2 h3, (xW h1 h2 h3).1, (xW h1 h2 h3).2]
        exact aJl (by rw [uA h1.1];omega)
  · rw [oD h h1,(xU h1).1,(xU h1).2,aBv (by decide)]
theorem wC {L:List UInt8}{q:Nat}:iP L (q * 8) (Int.toNat (dS (L.length:Int) (((q+1) * 8:Nat):Int)))=mF L q:=by
  unfold mF
  have:=gB (L.length:Int) (((q+1) * 8:Nat):Int)
  rw [show Int.toNat (dS (L.length:Int) (((q+1) * 8:Nat):Int))=min ((q+1) * 8) L.length by omega]
theorem yL {L:List UInt8}{q:Nat}:iP L (q * 8) (Int.toNat (dS (((q+1) * 8:Nat):Int) (L.length:Int)))=mF L q:=by
  rw [rN];exact wC
theorem aLw {xs:List aF}{b:List Int} (h:bM xs=0) (h2:gW b=0):jK xs b=0:=by unfold jK;rw [if_pos h,h2]
end Go.Proofs.YtmejbfmhaoilmaaGreat
/- What is proved: copy into a part of a slice of one's own. No condition. -/
namespace Go.Proofs.YtmejbfmhaoilmaaGreat
open Go Go.RowKit
set_option linter.unusedVariables false
set_option linter.unusedSimpArgs false
theorem aGn {β:Type}{cur fl ys:List β}{a:Nat} (h:cur.take fl.length=fl) (hm:a+ys.length≤fl.length):(cur.take a++ys++cur.drop (a+ys.length)).take fl.length=fl.take a++ys++fl.drop (a+ys.length):=by
  have hc:cur=fl++cur.drop fl.length:=by conv=>lhs;rw [←List.take_append_drop fl.length cur,h]
  generalize cur.drop fl.length=r at hc
  subst hc
  have h1:(fl++r).take a=fl.take a:=List.take_append_of_le_length (by omega)
  have h2:(fl++r).drop (a+ys.length)=fl.drop (a+ys.length)++r:=List.drop_append_of_le_length hm
  rw [h1,h2,←List.append_assoc]
  exact List.take_left' (by simp only [List.length_append,List.length_take,List.length_drop];omega)
section
variable {P:Program}{T:eY}{o:Oper}{w0:World}{S0:Bs}{l l':List Asn}
theorem aIe {α:Type}{x:Operand}{xs:List α}{A:Option Addr}{i c:Nat} (h:Val T x (.slice A (iP xs i xs.length).length c)):Val T x (.slice A (xs.length - i) c):=by rwa [fW (Nat.le_refl _)] at h
theorem aH2 {α : Type} {K : Kd α} (hK : zD K) {e by_ e2 by2 i c c' : Nat} {xs ys : List α} {ad : Addr} {A' : Option Addr} {xv : Value} {x s : Operand} {t t' : TypeId} (ho : o.op = .call { callee := .builtin .copy, args := #[x, s], argTypes := #[t, t'] }) (ht : P.underlying t = some (.slice e))
    (hi:(P.info? e).map (·.size)=some K.sz) (hx:Val T x (.slice A' (xs.length - i) c')) (hA:A'=(if c=i then some ad else some (ad.add (i * K.sz)))) (hs:Val T s xv)
    (hT:mC l [aG (bN e by_ K) xs [.slice (some ad) xs.length c]] l') (hsrc:∀w S1,Tr w0 S0 w S1 l'→(bN e2 by2 K).ro w (FF w S1) ys [xv]) (h:i+ys.length≤xs.length) (hp:0<ys.length):
    Eff P o T w0 S0 l (fun r l2=>r= .int .i64 (ys.length:Int)∧l2=aG (bN e by_ K) (xs.take i++ys++xs.drop (i+ys.length)) [.slice (some ad) xs.length c] :: l'):=by
  intro a w ha hw
  obtain⟨S1,hA1,tr,hkk⟩:=(hw.takes hT).eff
  obtain⟨css2,g1,g2,g3⟩:=aBx (hsrc w S1 tr)
  obtain⟨i0,k1,k2⟩:=Option.map_eq_some_iff.1 hi
  obtain⟨b,c2,rfl,hcell⟩:∃b c,xv= .slice (some b) ys.length c∧∀j u,css2.flatten[j]? =some u→w.cell? (b.add j)=some u:=by
    rcases g2.from_ with h1 |⟨_,h1⟩
    · exact h1
    · omega
  rcases(show(bN e by_ K).own w S1 xs [.slice (some ad) xs.length c] from hA1.head) with ⟨A,hv,rfl⟩ |⟨g,cc,css,hv,h1,h2,h3,h4,h5⟩
  · simp only [List.length_nil] at h;omega
  have hv':=List.singleton_inj.1 hv
  injection hv' with e1 e2 e3
  obtain rfl:=Option.some.inj e1
  subst e3
  obtain⟨B1,B2,⟨hg,cur,q1,q2,q3,q4⟩,hseq,i1,i2,dd⟩:=h5
  have hlc:=oX h4 hseq
  have hfl:css.flatten.length=xs.length * K.sz:=by rw [jO hlc,h4]
  have hl2:css2.flatten.length=ys.length * K.sz:=g2.len
  have hone:∀u,u∈css2.flatten→u.oneCell'=true:=fun u hu=>by
    obtain⟨d,hd,hu2⟩:=List.mem_flatten.1 hu
    obtain⟨j,hj,rfl⟩:=List.mem_iff_getElem.1 hd
    obtain⟨y,hy⟩:=aI (xs:=ys) (j:=j) (by omega)
    exact K.ro_one (g3 j y _ hy (List.getElem?_eq_getElem hj)) u hu2
  have hmul:(i+ys.length) * K.sz≤xs.length * K.sz:=Nat.mul_le_mul_right _ h
  rw [Nat.add_mul] at hmul
  have hlA:A'=some ((⟨g,0,none⟩:Addr).add (i * K.sz)):=by
    rw [hA,if_neg (by omega)]
  have hcz:xs.length * K.sz≤c * K.sz:=Nat.mul_le_mul_right _ h1
  have hcur:cur.toList.length=cur.size:=Array.length_toList
  have hst:=run_storeCells_at P g (i * K.sz) e css2.flatten 0 cur w q1 (by omega) hone
  simp only [Nat.add_zero,hl2] at hst
  have hfc:=run_firstCells_some (P:=P) w K.sz ys.length b ys.length c2 css2.flatten hl2 hcell
  have hne:∀q,q≠g→(w.setRow g (cur.toList.take (i * K.sz)++css2.flatten++cur.toList.drop (i * K.sz+ys.length * K.sz)).toArray).heap[q]? =w.heap[q]? :=fun q hq=>setRow_other w g q _ hq
  have hn:css2.length=ys.length:=g1
  have hcl:(css.take i++css2++css.drop (i+ys.length)).length=(xs.take i++ys++xs.drop (i+ys.length)).length:=by
    simp only [List.length_append,List.length_take,List.length_drop];omega
  have hxl:(xs.take i++ys++xs.drop (i+ys.length)).length=xs.length:=by
    simp only [List.length_append,List.length_take,List.length_drop];omega
  have hro:∀(j:Nat) (y:α) (d:List Value),(xs.take i++ys++xs.drop (i+ys.length))[j]? =some y→(css.take i++css2++css.drop (i+ys.length))[j]? =some d→K.ro w (FF w S1) y d∨∃F,K.ro w F y d:=fun j y d hy hd=>by
    have hti:(xs.take i).length=i:=by rw [List.length_take];omega
    have htc:(css.take i).length=i:=by rw [List.length_take];omega
    by_cases hj:j<i
    · rw [List.append_assoc, List.getElem?_append_left (by omega), List.getElem?_take, if_pos hj] at hy hd
      exact .inr ⟨_,K.own_ro (sP hseq hy hd)⟩
    · rw [List.append_assoc, List.getElem?_append_right (by omega), hti] at hy
      rw [List.append_assoc,List.getElem?_append_right (by omega),htc] at hd
      by_cases hj2:j - i<ys.length
      · rw [List.getElem?_append_left hj2] at hy
        rw [List.getElem?_append_left (by omega)] at hd
        exact .inl (g3 _ y d hy hd)
      · rw [List.getElem?_append_right (by omega), List.getElem?_drop] at hy
        rw [List.getElem?_append_right (by omega),List.getElem?_drop,hn] at hd
        exact .inr ⟨_,K.own_ro (sP hseq hy hd)⟩
  have hflat:(css.take i++css2++css.drop (i+ys.length)).flatten=css.flatten.take (i * K.sz)++css2.flatten++css.flatten.drop (i * K.sz+ys.length * K.sz):=by
    rw [List.flatten_append,List.flatten_append,sZ hlc,aAb hlc,Nat.add_mul]
  have hseq2:∀(w':World) (S':Bs),cH (jL K (xs.take i++ys++xs.drop (i+ys.length)) (css.take i++css2++css.drop (i+ys.length))) w' S':=fun w' S'=>by
    have:∀{zs:List α}{ds:List (List Value)},ds.length=zs.length→(∀(j:Nat) (y:α) (d:List Value),zs[j]? =some y→ds[j]? =some d→K.ro w (FF w S1) y d∨∃F,K.ro w F y d)→cH (jL K zs ds) w' S':=by
      intro zs
      induction zs generalizing S' with
      | nil=>intro ds hl _;cases ds with
        | nil=>trivial
        | cons _ _=>simp at hl
      | cons z zs ih=>intro ds hl hz;cases ds with
        | nil=>simp at hl
        | cons d ds=>
          refine⟨fun _=>False,fun _=>False,?_,ih _ (by simpa using hl) (fun j y c' p1 p2=>hz (j+1) y c' p1 p2),fun _ h=>h.elim,fun _ h=>h.elim,fun _ h=>h.elim⟩
          rcases hz 0 z d rfl rfl with hh |⟨F,hh⟩
          · exact hK hh _ _
          · exact hK hh _ _
    exact this hcl hro
  refine⟨.int .i64 (ys.length:Int),_,_,?_,⟨rfl,rfl⟩,hkk _ [aG (bN e by_ K) (xs.take i++ys++xs.drop (i+ys.length)) [.slice (some ⟨g,0,none⟩) xs.length c]] S1 (cH.one (c:=aG (bN e by_ K) _ _) (.inr ⟨g,c,css.take i++css2++css.drop (i+ys.length),by rw [hxl],by rw [hxl];exact h1,h2,by rw [hxl];exact h3,hcl,B1,fun _=>False,⟨hg,_,setRow_heap w g cur _ e _ q1,?_,?_,?_⟩,hseq2 _ _,i1,fun _ h=>h.elim,fun _ _ h=>h⟩)) (fun b hb=> .inl hb) ⟨rfl,rfl,rfl,by simp,fun b hb hn=>hne b (fun e=>hn (e ▸ i1 g hg))⟩⟩
  · simp only [execOp, ho, hx a ha, hs a ha]
    have hmin:Nat.min ys.length (xs.length - i)=ys.length:=Nat.min_eq_left (by omega)
    have:(Builtin.copy_ #[t,t'] o.type #[.slice A' (xs.length - i) c',.slice (some b) ys.length c2]).run P w= .ok (.int .i64 (ys.length:Int)) (w.setRow g (cur.toList.take (i * K.sz)++css2.flatten++cur.toList.drop (i * K.sz+ys.length * K.sz)).toArray):=by
      rw [hlA,jE]
      simp [Builtin.copy_,run_underlying ht,Builtin.lenOf,sizeOf,typeInfo,k1,k2,hmin,hfc,hst,goInt]
    simp [resolve,hx a ha,hs a ha,invoke,builtin,this]
  · simp only [List.size_toArray,List.length_append,List.length_take,List.length_drop,hl2];omega
  · rw [hflat];simp only [List.size_toArray,List.length_append,List.length_take,List.length_drop,hl2,hfl];omega
  · rw [hflat]
    have hm:=aGn (cur:=cur.toList) (fl:=css.flatten) (ys:=css2.flatten) (a:=i * K.sz) q4 (by omega)
    rw [hl2] at hm
    have hlen:(css.flatten.take (i * K.sz)++css2.flatten++css.flatten.drop (i * K.sz+ys.length * K.sz)).length=css.flatten.length:=by
      simp only [List.length_append,List.length_take,List.length_drop,hl2];omega
    rw [hlen]
    exact hm
end
end Go.Proofs.YtmejbfmhaoilmaaGreat
/- What is proved: paths: cut at a byte, joined again, in plain Lean. No condition. -/
namespace Go.Proofs.YtmejbfmhaoilmaaGreat
open Go Go.RowKit
set_option linter.unusedVariables false
set_option linter.unusedSimpArgs false
abbrev sl1:ByteArray:=⟨#[47]⟩
def wY : List UInt8 → List (List UInt8)
  | []=> [[]]
  | b :: l=>if b=47 then [] :: wY l else match wY l with | []=> [[b]] | p :: ps=>(b :: p) :: ps
theorem aEe : ∀ {l : List UInt8}, (∀ b, b ∈ l → b ≠ 47) → wY l = [l]
  | [],_=>rfl
  | b :: l,h=>by
    unfold wY
    rw [if_neg (h b (by simp)),aEe (fun c hc=>h c (by simp [hc]))]
theorem aDn : ∀ {n : Nat} {l : List UInt8}, (∀ (j : Nat) b, j < n → l[j]? = some b → b ≠ 47) → l[n]? = some 47 → wY l = l.take n :: wY (l.drop (n + 1))
  | 0,[],_,h=>by simp at h
  | 0,b :: l,_,h=>by
    have:b=47:=by simpa using h
    subst this
    rw [wY,if_pos rfl]
    simp
  | n+1,[],_,h=>by simp at h
  | n+1,b :: l,ha,h=>by
    have ih:=aDn (n:=n) (l:=l) (fun j c hj hc=>ha (j+1) c (by omega) (by simpa using hc)) (by simpa using h)
    have h0:b≠47:=ha 0 b (by omega) (by simp)
    rw [wY,if_neg h0,ih]
    simp
def uZ (s:ByteArray):List ByteArray:=(wY s.data.toList).map rA
theorem uK (s:ByteArray):rA s.data.toList=s:=by cases s;simp [rA]
def CI (l:List UInt8) (m k:Nat) (out:List ByteArray):Prop:=
  m≤k∧(∀(j:Nat) b,m≤j→j<k→l[j]? =some b→b≠47)∧(wY l).map rA=out++(wY (l.drop m)).map rA
theorem aMg {l:List UInt8}:CI l 0 0 []:=⟨Nat.le_refl _,fun j b h1 h2=>absurd h2 (by omega),rfl⟩
theorem aKt {l:List UInt8}{m k:Nat}{out:List ByteArray}{b:UInt8} (h:CI l m k out) (hb:l[k]? =some b) (hn:b≠47):CI l m (k+1) out:=
  ⟨by have:=h.1;omega,fun j c h1 h2 hc=>by
    rcases Nat.lt_succ_iff_lt_or_eq.1 h2 with h3 | rfl
    · exact h.2.1 j c h1 h3 hc
    · rw [hb] at hc;obtain rfl:=Option.some.inj hc;exact hn,h.2.2⟩
theorem aKd {s:ByteArray}{m k:Nat}{out:List ByteArray}{b:UInt8} (h:CI s.data.toList m k out) (hb:s.data.toList[k]? =some b) (hn:b=47):CI s.data.toList (k+1) (k+1) (out++ [s.extract m k]):=by
  subst hn
  obtain⟨h1,h2,h3⟩:=h
  refine⟨Nat.le_refl _,fun j c a b=>absurd a (by omega),?_⟩
  have hk:m+(k - m)=k:=by omega
  have e:=aDn (n:=k - m) (l:=s.data.toList.drop m) (fun j c hj hc=>h2 (m+j) c (by omega) (by omega) (by rw [List.getElem?_drop] at hc;exact hc)) (by rw [List.getElem?_drop,hk];exact hb)
  rw [h3,e,List.drop_drop,List.map_cons,show m+(k - m+1)=k+1 by omega]
  have e2:s.extract m k=rA (List.take (k - m) (List.drop m s.data.toList)):=by
    rw [←uK (s.extract m k),Lib.extract_data]
  rw [e2]
  simp
theorem aCw {s:ByteArray}{m k:Nat}{out:List ByteArray} (h:CI s.data.toList m k out) (hk:k=s.size):out++ [s.extract m k]=uZ s:=by
  subst hk
  obtain⟨h1,h2,h3⟩:=h
  unfold uZ
  rw [h3,aEe (fun b hb=>by
    obtain⟨j,hj⟩:=List.mem_iff_getElem?.1 hb
    rw [List.getElem?_drop] at hj
    have:=(List.getElem?_eq_some_iff.1 hj).1
    rw [nA] at this
    exact h2 (m+j) b (by omega) (by omega) hj)]
  have e:List.take (s.size - m) (List.drop m s.data.toList)=List.drop m s.data.toList:=List.take_of_length_le (by rw [List.length_drop,nA];omega)
  rw [←uK (s.extract m s.size),Lib.extract_data,e]
  simp
def qB : List ByteArray → Int
  | []=>0
  | s :: l=>if cK s=0 then qB l else cK s
theorem wF : ∀ {xs : List ByteArray}, (∀ (j : Nat) s, xs[j]? = some s → cK s = 0) → qB xs = 0
  | [],_=>rfl
  | s :: l,h=>by
    unfold qB
    rw [if_pos (h 0 s (by simp))]
    exact wF (fun j t ht=>h (j+1) t (by simpa using ht))
theorem zA : ∀ {xs : List ByteArray} {k : Nat} {s : ByteArray}, (∀ (j : Nat) s, j < k → xs[j]? = some s → cK s = 0) → xs[k]? = some s → ¬ cK s = 0 → qB xs = cK s
  | [],_,_,_,h,_=>by simp at h
  | t :: l,0,s,_,h,hn=>by
    have:t=s:=by simpa using h
    subst this
    unfold qB
    rw [if_neg hn]
  | t :: l,k+1,s,ha,h,hn=>by
    unfold qB
    rw [if_pos (ha 0 t (by omega) (by simp))]
    exact zA (k:=k) (fun j u hj hu=>ha (j+1) u (by omega) (by simpa using hu)) (by simpa using h) hn
theorem aA1 : ∀ {xs : List ByteArray}, qB xs = 0 → ∀ s, s ∈ xs → cK s = 0
  | [],_,_,h=>by simp at h
  | t :: l,h0,s,h=>by
    unfold qB at h0
    split at h0
    · rename_i ht
      rcases List.mem_cons.1 h with rfl | h
      · exact ht
      · exact aA1 h0 s h
    · rename_i ht;exact absurd h0 ht
def mM (xs:List ByteArray):Int:=if 6<xs.length then 2 else qB xs
theorem vX {xs:List ByteArray} (h:6<xs.length):mM xs=2:=if_pos h
theorem aFv {xs:List ByteArray} (h:¬6<xs.length) {k:Nat}{s:ByteArray} (ha:∀(j:Nat) s,j<k→xs[j]? =some s→cK s=0) (hs:xs[k]? =some s) (hn:¬cK s=0):mM xs=cK s:=by rw [mM,if_neg h,zA ha hs hn]
theorem xR {xs:List ByteArray} (h:¬6<xs.length) {k:Nat} (ha:∀(j:Nat) s,j<k→xs[j]? =some s→cK s=0) (hk:xs.length≤k):mM xs=0:=by
  rw [mM,if_neg h]
  exact wF fun j s hs=>ha j s (Nat.lt_of_lt_of_le (List.getElem?_eq_some_iff.1 hs).1 hk) hs
theorem aHr {xs:List ByteArray} (h:mM xs=0):xs.length≤6∧∀s,s∈xs→cK s=0:=by
  unfold mM at h
  split at h
  · exact absurd h (by decide)
  · exact⟨by omega,aA1 h⟩
abbrev uR (s:ByteArray):ByteArray:=ByteArray.extract s 1 s.size
def xN (s:ByteArray):Prop:=s.data.toList[0]? ≠some 47∨s.data.toList[s.size - 1]? =some 47
instance (s:ByteArray):Decidable (xN s):=by unfold xN;infer_instance
def fN (s:ByteArray):Int:=if 30<s.size then 2 else if s=sl1 then 0 else if xN s then 5 else mM (uZ (uR s))
def dV (s:ByteArray):List ByteArray:=if fN s=0∧s≠sl1 then uZ (uR s)else []
theorem aH1 {s:ByteArray} (h:30<s.size):fN s=2∧dV s= []:=by
  have:fN s=2:=if_pos h
  exact⟨this,by rw [dV,if_neg];rw [this];simp⟩
theorem aH9 {s:ByteArray} (h:¬30<s.size) (h2:s=sl1):fN s=0∧dV s= []:=by
  have:fN s=0:=by rw [fN,if_neg h,if_pos h2]
  exact⟨this,by rw [dV,if_neg];simp [h2]⟩
theorem zC {s:ByteArray} (h:¬30<s.size) (h2:¬s=sl1) (h3:xN s):fN s=5∧dV s= []:=by
  have:fN s=5:=by rw [fN,if_neg h,if_neg h2,if_pos h3]
  exact⟨this,by rw [dV,if_neg];rw [this];simp⟩
theorem aHy {s:ByteArray} (h:¬30<s.size) (h2:¬s=sl1) (h3:¬xN s) (h4:¬mM (uZ (uR s))=0):fN s=mM (uZ (uR s))∧dV s= []:=by
  have:fN s=mM (uZ (uR s)):=by rw [fN,if_neg h,if_neg h2,if_neg h3]
  exact⟨this,by rw [dV,if_neg];rw [this];simp [h4]⟩
theorem aIa {s:ByteArray} (h:¬30<s.size) (h2:¬s=sl1) (h3:¬xN s) (h4:mM (uZ (uR s))=0):fN s=0∧dV s=uZ (uR s):=by
  have:fN s=0:=by rw [fN,if_neg h,if_neg h2,if_neg h3,h4]
  exact⟨this,by rw [dV,if_pos ⟨this,h2⟩]⟩
theorem pT (s:ByteArray):(dV s).length≤6∧∀x,x∈dV s→cK x=0:=by
  by_cases h:fN s=0∧s≠sl1
  · obtain ⟨h1, h2⟩ := h
    have h3:dV s=uZ (uR s):=by rw [dV,if_pos ⟨h1,h2⟩]
    unfold fN at h1
    split at h1
    · exact absurd h1 (by decide)
    · split at h1
      · exact absurd h1 (by decide)
      · rw [h3];exact aHr h1
  · rw [dV,if_neg h];simp
def wL (xs:List ByteArray):List UInt8:=(xs.map (fun s=>47 :: s.data.toList)).flatten
def aAq (xs:List ByteArray):ByteArray:=if xs= []then sl1 else rA (wL xs)
theorem aEy {xs:List ByteArray} (h:∀s,s∈xs→cK s=0):(wL xs).length≤5 * xs.length:=by
  induction xs with
  | nil=>simp [wL]
  | cons x r ih=>
    have h1:=(uL (h x (by simp))).1
    have h2:=ih (fun s hs=>h s (by simp [hs]))
    have h3:=nA x
    simp only [wL,List.map_cons,List.flatten_cons,List.length_append,List.length_cons] at h2 ⊢
    omega
def jnB (xs:List ByteArray):ByteArray:=rA (wL xs)
theorem aLo {xs:List ByteArray}{k:Nat}{x:ByteArray} (h:xs[k]? =some x):jnB (xs.take k)++sl1++x=jnB (xs.take (k+1)):=by
  rw [List.take_add_one,h]
  have e:∀a b:ByteArray,a=rA b.data.toList→a=b:=fun a b h=>by rw [h,uK]
  symm
  apply e
  unfold jnB
  congr 1
  simp [wL,rA]
theorem aIk {xs:List ByteArray}:(jnB xs=⟨#[]⟩)↔xs= []:=by
  constructor
  · intro h
    cases xs with
    | nil=>rfl
    | cons x r=>
      have:=congrArg (fun b:ByteArray=>b.data.toList) h
      simp [jnB,rA,wL] at this
  · rintro rfl;rfl
theorem aD0 {xs:List ByteArray} (h:jnB xs=⟨#[]⟩):aAq xs=sl1:=if_pos (aIk.1 h)
theorem aDz {xs:List ByteArray} (h:¬jnB xs=⟨#[]⟩):aAq xs=jnB xs:=if_neg (fun e=>h (aIk.2 e))
theorem aAv {xs:List ByteArray} (h:∀s,s∈xs→cK s=0):(jnB xs).size≤5 * xs.length:=by
  have:=aEy h
  simpa [jnB,rA,ByteArray.size] using this
theorem aCf {xs:List ByteArray} (h:∀s,s∈xs→cK s=0):(aAq xs).size≤5 * xs.length+1:=by
  unfold aAq
  split
  · show(1:Nat)≤_;omega
  · have:=aAv h;unfold jnB at this;omega
theorem oS {b:UInt8}:(b.toNat:Int)=47↔b=47:=⟨fun h=>UInt8.toNat_inj.1 (show b.toNat=(47:UInt8).toNat by have:(47:UInt8).toNat=47:=rfl;omega),fun h=>by subst h;rfl⟩
theorem aG9 {s:ByteArray} (h:(s.size:Int)=0):xN s:= .inl (by rw [List.getElem?_eq_none (by rw [nA];omega)];simp)
theorem aIx {s:ByteArray}{b:UInt8} (hb:s.data.toList[0]? =some b) (h:¬(b.toNat:Int)=47):xN s:= .inl (by rw [hb];intro e;exact h (oS.2 (Option.some.inj e)))
theorem aLf {s:ByteArray}{b:UInt8}{j:Nat} (hb:s.data.toList[j]? =some b) (hj:j=s.size - 1) (h:(b.toNat:Int)=47):xN s:= .inr (by rw [←hj,hb,oS.1 h])
theorem aKi {s:ByteArray}{b c:UInt8}{j:Nat} (hb:s.data.toList[0]? =some b) (h:(b.toNat:Int)=47) (hc:s.data.toList[j]? =some c) (hj:j=s.size - 1) (hn:¬(c.toNat:Int)=47):¬xN s:=by
  rintro(h1 | h1)
  · exact h1 (by rw [hb,oS.1 h])
  · rw [←hj,hc] at h1;exact hn (oS.2 (Option.some.inj h1))
theorem aIs {s:ByteArray} (h:s.data.toList[0]? =some 47) (h2:¬s.data.toList[s.size - 1]? =some 47):¬xN s:=by
  rintro(h1 | h1)
  · exact h1 h
  · exact h2 h1
def kZ (s:ByteArray):Int:=if fN s=0 then if dV s= []then 4 else 0 else fN s
def gQ (s:ByteArray):List ByteArray:=if kZ s=0 then(dV s).take ((dV s).length - 1)else []
def qC (s:ByteArray):ByteArray:=if kZ s=0 then((dV s)[(dV s).length - 1]?).getD ⟨#[]⟩else⟨#[]⟩
theorem aGw {s:ByteArray} (h:¬fN s=0):kZ s=fN s∧gQ s= []∧qC s=⟨#[]⟩:=by
  have:kZ s=fN s:=if_neg h
  exact⟨this,by rw [gQ,this,if_neg h],by rw [qC,this,if_neg h]⟩
theorem aF9 {s:ByteArray} (h:fN s=0) (h2:dV s= []):kZ s=4∧gQ s= []∧qC s=⟨#[]⟩:=by
  have:kZ s=4:=by rw [kZ,if_pos h,if_pos h2]
  exact⟨this,by rw [gQ,this,if_neg (by decide)],by rw [qC,this,if_neg (by decide)]⟩
theorem aJp {s:ByteArray} (h:fN s=0) (h2:¬dV s= []):kZ s=0∧gQ s=(dV s).take ((dV s).length - 1)∧∀(j:Nat) x,j=(dV s).length - 1→(dV s)[j]? =some x→qC s=x:=by
  have:kZ s=0:=by rw [kZ,if_pos h,if_neg h2]
  exact⟨this,by rw [gQ,if_pos this],fun j x hj hx=>by rw [qC,if_pos this,←hj,hx];rfl⟩
theorem zO {α:Type}{xs:List α}:(xs.length:Int)=0↔xs= []:=by rw [←List.length_eq_zero_iff];omega
theorem aF0 (s:ByteArray):(gQ s).length≤6∧∀x,x∈gQ s→cK x=0:=by
  have h:=pT s
  unfold gQ
  split
  · exact⟨by rw [List.length_take];omega,fun x hx=>h.2 x (List.mem_of_mem_take hx)⟩
  · simp
theorem xO (s:ByteArray):(qC s).size≤4:=by
  unfold qC
  split
  · cases hx:(dV s)[(dV s).length - 1]? with
    | none=>exact Nat.zero_le _
    | some x=>exact(uL ((pT s).2 x (List.mem_of_getElem? hx))).1
  · exact Nat.zero_le _
theorem aAu {s:ByteArray}{a b B:Nat} (h:s.size≤B):(ByteArray.extract s a b).size≤B:=by rw [ByteArray.size_extract];omega
end Go.Proofs.YtmejbfmhaoilmaaGreat
/- What is proved: the library's contracts on strings, told of our kinds. No condition. -/
namespace Go.Proofs.YtmejbfmhaoilmaaGreat
open Go Go.RowKit
set_option linter.unusedVariables false
set_option linter.unusedSimpArgs false
def aCj (g:Nat) (w:World) (F:Bs):Prop:=∃m:Int,gK (gX .i64) w F ⟨g,0,none⟩ m
theorem aCj.tr {g:Nat}{w0 w:World}{S0 S1:Bs}{lr:List Asn} (tr:Tr w0 S0 w S1 lr) (h:aCj g w0 (FF w0 S0)):aCj g w (FF w S1):=h.imp fun _ h=>tr.ctxP h
theorem aCj.cell {g:Nat}{w:World}{F:Bs} (h:aCj g w F):∃m:Int,w.cell? ⟨g,0,none⟩=some (.int .i64 m):=by
  obtain⟨m,ecs,hF,⟨rfl, -⟩,hc⟩:=h
  exact⟨m,by simpa [Addr.add] using hc 0 _ rfl⟩
theorem aCj.of {g:Nat}{w:World}{F:Bs} (hF:F g) (h:∃m:Int,w.cell? ⟨g,0,none⟩=some (.int .i64 m)):aCj g w F:=by
  obtain⟨m,hm⟩:=h
  refine⟨m,[.int .i64 m],hF,⟨rfl,trivial⟩,fun i u hu=> ?_⟩
  cases i with
  | zero=>simp at hu;subst hu;simpa [Addr.add] using hm
  | succ i=>simp at hu
end Go.Proofs.YtmejbfmhaoilmaaGreat

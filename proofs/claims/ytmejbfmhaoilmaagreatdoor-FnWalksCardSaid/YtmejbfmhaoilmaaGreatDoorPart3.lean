/- What is proved: contracts of functions, one a function. No condition. -/
import Derived.Test.YtmejbfmhaoilmaaGreatDoorBase1
import Derived.Test.YtmejbfmhaoilmaaGreatDoorPart0
import Derived.Test.YtmejbfmhaoilmaaGreatDoorBase2
import Derived.Test.YtmejbfmhaoilmaaGreatDoorPart2
import Derived.Test.YtmejbfmhaoilmaaGreatDoorPart1
namespace Go.Proofs.YtmejbfmhaoilmaaGreatDoor
open Go Go.RowKit
set_option linter.unusedVariables false
set_option linter.unusedSimpArgs false
set_option maxHeartbeats 1000000
set_option maxRecDepth 20000
theorem aMf {w0:World}{S0:Bs}{x:(List ByteArray)}{v0:Value} (h0:cT.ro w0 (FF w0 S0) x [v0]):
    Calls Tryz.prog 163 #[v0] w0 (aI w0 S0 (fun r l=>r= .int .i64 (mL x)∧l= [])):=by
 obtain⟨A0,c0,rfl,ai,aj,ak,ag⟩:=aD h0
 refine Y.enter (N:=22) Tryz.func163 rfl rfl (by simp) [(0,.slice A0 x.length c0)] (by simp) (l0:= []) trivial ?_
 refine Y.seq (Y.region (Y.ql rfl (aA rfl .c) (Y.nt (Y.seq (Y.seq (Y.region (Y.mv rfl .g1 ?_)))))))
 refine Y.ql rfl (bD rfl eQ (.t .z)) (Y.ql rfl (fI rfl (.t .z) .c) (Y.nt ?_))
 refine Y.u (.t .z) (fun b2=> ?_) (fun b2=> ?_)
 refine Y.seq (Y.region (Y.er .g3 (Y.ql rfl (aA rfl .c) (Y.nt (Y.ret (Y.j ?_))))))
 refine Y.i (aU rfl .z) .n ?_
 exact⟨by first |(rw [tC (by omega)];done) |(rw [qM (by omega) hallk (by omega)];done),rfl⟩
 refine Y.skip (Y.g (Y.seq (Y.seq (Y.region (Y.ql rfl (aA rfl .c) (Y.nt (Y.block ?_)))))))
 refine Y.ai (γ:=Nat) (fun k=> [(3,.int .i64 (k:Int)),(0,.slice A0 x.length c0)]) (fun k=> []) (fun k=>k≤x.length∧∀(j:Nat) (s:ByteArray),j<k→x[j]? =some s→aV s=0) (fun k=>x.length - k) 0 ⟨Nat.zero_le _,eN (q:=fun _ (s:ByteArray)=>aV s=0)⟩ (.c .z (.c .g5 .n)) (fun _ h=>h) ?_
 rintro k ⟨hk,hallk⟩
 refine Y.seq (Y.seq (Y.region (Y.mv rfl .z (Y.mv rfl .g2 (Y.ql rfl (bD rfl eQ (.t .z)) (Y.ql rfl (dA rfl (.t .g2) (.t .z)) (Y.nt ?_)))))))
 refine Y.u (.t .z) (fun b3=> ?_) (fun b3=> ?_)
 refine Y.skip (Y.g (Y.seq (Y.block (Y.seq (Y.region (Y.mv rfl .g5 (Y.mv rfl .g5 ?_)))))))
 obtain⟨al,aa,ab⟩:=ag (by omega)
 subst aa
 obtain⟨x5,ac⟩:=aK (xs:=x) (j:=k) (by omega)
 obtain⟨ah,ad,ae,af⟩:=ab.elem ac
 obtain⟨rfl,am⟩:=ad
 refine Y.ql rfl (aB (j:=k) rfl eQ mU (.t .g1) (.t .z) rfl (by omega)) ?_
 refine Y.ql rfl (aM rfl iH (.t .z) (WS.i ae af rfl)) ?_
 refine Y.cl rfl rfl Tryz.func119 rfl rfl (bG (.t .z)) .n (fun _ _ hs tr=>aKb _ (by first | assumption | omega)) ?_
 rintro _ _ ⟨rfl,rfl⟩
 refine Y.m .n ?_
 refine Y.as rfl .z (Y.nt (Y.seq (Y.region (Y.mv rfl .z (Y.ql rfl (bW rfl (.t .z) .c) (Y.nt ?_))))))
 refine Y.ac (.t .z) (fun b7=> ?_) (fun b7=> ?_)
 refine Y.seq (Y.region (Y.mv rfl .g2 (Y.as rfl .z (Y.nt (Y.ret (Y.v (Y.j ?_)))))))
 refine Y.j (Y.v (Y.j ?_))
 refine Y.i (aU rfl .z) .n ?_
 exact⟨by first |(rw [tC (by omega)];done) |(rw [aBt (by omega) hallk ac (by assumption)];done) |(rw [qM (by omega) hallk (by omega)];done),rfl⟩
 refine Y.skip (Y.ab (Y.g (Y.region (Y.mv rfl .g12 ?_))))
 refine Y.ql rfl (bN (c:=((k+1:Nat):Int)) rfl (.t .z) .c (wr (by omega) (by omega) (by omega))) ?_
 refine Y.er .g14 (Y.as rfl .z (Y.nil ?_))
 refine Y.ae (k+1) ⟨by omega,dS (q:=fun _ (s:ByteArray)=>aV s=0) hallk ac (by first | assumption | omega)⟩ (by first | omega |(dsimp only;omega)) (.c .z (.c .g15 .n)) (fun _ h=>h)
 refine Y.exit (Y.y (Y.y (Y.ag (Y.g (Y.seq (Y.region (Y.ql rfl (aA rfl .c) (Y.nil ?_))))))))
 refine Y.g (Y.ret ?_)
 refine Y.i (aU rfl .z) .n ?_
 exact⟨by first |(rw [tC (by omega)];done) |(rw [qM (by omega) hallk (by omega)];done),rfl⟩

theorem aL2 {w0:World}{S0:Bs}{x:(List ByteArray)}{v0:Value} (h0:cT.ro w0 (FF w0 S0) x [v0]) (hok:∀s,s∈x→aV s=0) (hl:x.length≤6):
    Calls Tryz.prog 117 #[v0] w0 (aI w0 S0 (fun r l=>r= .string (jD x)∧l= [])):=by
 obtain⟨A0,c0,rfl,aj,ak,al,ah⟩:=aD h0
 have am:(⟨#[47]⟩:ByteArray).size=1:=rfl
 refine Y.enter (N:=21) Tryz.func117 rfl rfl (by simp) [(0,.slice A0 x.length c0)] (by simp) (l0:= []) trivial ?_
 refine Y.seq (Y.region (Y.ql rfl (aA rfl .c) (Y.nt (Y.seq (Y.region (Y.ql rfl (aA rfl .c) (Y.nil ?_)))))))
 refine Y.g (Y.seq (Y.seq (Y.region (Y.ql rfl (aA rfl .c) (Y.nt (Y.block ?_))))))
 refine Y.ai (γ:=Nat) (fun k=> [(4,.int .i64 (k:Int)),(3,.string (jnB (List.take k x))),(2,.string (⟨#[]⟩)),(0,.slice A0 x.length c0)]) (fun k=> []) (fun k=>k≤x.length) (fun k=>x.length - k) 0 (Nat.zero_le _) (.c .z (.e .g1 (congrArg Value.string (show(⟨#[]⟩:ByteArray)=jnB (List.take 0 x) from rfl)) (.c .g2 (.c .g3 .n)))) (fun _ h=>h) ?_
 rintro k hk
 have hjs:=yM (xs:=List.take k x) (fun s hs=>hok s (List.mem_of_mem_take hs))
 have hjt:= @List.length_take _ k x
 refine Y.seq (Y.seq (Y.region (Y.mv rfl .z (Y.mv rfl .g4 (Y.ql rfl (bD rfl eQ (.t .z)) (Y.ql rfl (dA rfl (.t .g2) (.t .z)) (Y.nt ?_)))))))
 refine Y.u (.t .z) (fun b2=> ?_) (fun b2=> ?_)
 refine Y.skip (Y.g (Y.seq (Y.block (Y.region (Y.mv rfl .g5 ?_)))))
 refine Y.ql rfl (wT rfl (.t .z) .c (by first | omega |(rw [ByteArray.size_append];omega))) ?_
 refine Y.mv rfl .g9 (Y.mv rfl .g7 ?_)
 obtain⟨an,aa,ab⟩:=ah (by omega)
 subst aa
 obtain⟨x4,ac⟩:=aK (xs:=x) (j:=k) (by omega)
 obtain⟨ai,ad,ae,af⟩:=ab.elem ac
 obtain⟨rfl,ao⟩:=ad
 have ag:=(oU (hok _ (List.mem_of_getElem? ac))).1
 refine Y.ql rfl (aB (j:=k) rfl eQ mU (.t .g1) (.t .z) rfl (by omega)) ?_
 refine Y.ql rfl (aM rfl iH (.t .z) (WS.i ae af rfl)) ?_
 refine Y.ql rfl (wT rfl (.t .g4) (.t .z) (by first | omega |(rw [ByteArray.size_append];omega))) ?_
 refine Y.er .g12 (Y.as rfl .z (Y.nil (Y.ab (Y.g (Y.region (Y.mv rfl .g12 ?_))))))
 refine Y.ql rfl (bN (c:=((k+1:Nat):Int)) rfl (.t .z) .c (wr (by omega) (by omega) (by omega))) ?_
 refine Y.er .g14 (Y.as rfl .z (Y.nil ?_))
 refine Y.ae (k+1) (by omega) (by first | omega |(dsimp only;omega)) (.c .z (.e .g3 (congrArg Value.string (aJ9 ac)) (.c .g15 (.c .g16 .n)))) (fun _ h=>h)
 refine Y.exit (Y.y (Y.y (Y.ag (Y.g (Y.seq (Y.seq (Y.region (Y.mv rfl .g5 ?_))))))))
 refine Y.ql rfl (sU rfl (.t .z) .c) (Y.nt ?_)
 refine Y.u (.t .z) (fun b6=> ?_) (fun b6=> ?_)
 refine Y.seq (Y.region (Y.er .g8 (Y.ql rfl (aA rfl .c) (Y.nt (Y.ret (Y.j ?_))))))
 refine Y.i (aU rfl .z) .n ?_
 first |(exact⟨congrArg Value.string (by rw [List.take_of_length_le (by omega)] at *;exact(aE7 (by assumption)).symm),rfl⟩) |(exact⟨congrArg Value.string (by rw [List.take_of_length_le (by omega)] at *;exact(aE3 (by assumption)).symm),rfl⟩)
 refine Y.skip (Y.g (Y.seq (Y.region (Y.mv rfl .g7 (Y.er .g9 (Y.as rfl .z (Y.nt ?_)))))))
 refine Y.ret ?_
 refine Y.i (aU rfl .z) .n ?_
 first |(exact⟨congrArg Value.string (by rw [List.take_of_length_le (by omega)] at *;exact(aE7 (by assumption)).symm),rfl⟩) |(exact⟨congrArg Value.string (by rw [List.take_of_length_le (by omega)] at *;exact(aE3 (by assumption)).symm),rfl⟩)

end Go.Proofs.YtmejbfmhaoilmaaGreatDoor
/- What is proved: contracts of functions, one a function. No condition. -/
namespace Go.Proofs.YtmejbfmhaoilmaaGreatDoor
open Go Go.RowKit
set_option linter.unusedVariables false
set_option linter.unusedSimpArgs false
set_option maxHeartbeats 1000000
set_option maxRecDepth 20000
theorem aMl {w0:World}{S0:Bs} (s:ByteArray) (an:s.size≤140737488351232) (c:Int) (hc:c=47) (hs:s.size≤30):
    Calls Tryz.prog 162 #[.string s,.int .u8 c] w0 (aI w0 S0 (fun r l=>l= [aH cT (jL s) [r]])):=by
 refine Y.enter (N:=36) Tryz.func162 rfl rfl (by simp) [(0,.string s),(1,.int .u8 c)] (by simp) (l0:= []) trivial ?_
 refine Y.seq (Y.region (Y.ql rfl (aA rfl .c) (Y.nt (Y.seq (Y.region ?_)))))
 refine Y.el rfl (eA rfl eQ (inz jK)) ?_
 rintro _ _ ⟨g1,rfl,rfl⟩
 refine Y.as rfl .z (Y.nt (Y.seq (Y.region (Y.ql rfl (aA rfl .c) (Y.nt (Y.seq ?_))))))
 refine Y.seq (Y.region (Y.ql rfl (aA rfl .c) (Y.nt (Y.block ?_))))
 refine Y.add (c:=aH cT ([]:(List ByteArray)) [.slice (some ⟨g1,0,none⟩) 0 0]) (fun w S=>aL w S _) ?_
 refine Y.ai (γ:=Nat×(Option Addr)×Nat×Nat×(List ByteArray)) (fun⟨k,aa,ab,m,o⟩=> [(7,.int .i64 (k:Int)),(6,.int .i64 (m:Int)),(5,.slice aa o.length ab),(4,.slice none 0 0),(0,.string s),(1,.int .u8 c)]) (fun⟨k,aa,ab,m,o⟩=> [aH cT o [.slice aa o.length ab],bV g1 9 1 0 []]) (fun⟨k,aa,ab,m,o⟩=>k≤s.size+1∧(k≤s.size→CI s.data.toList m k o)∧(s.size<k→o=jL s)∧m≤k∧o.length≤k) (fun⟨k,aa,ab,m,o⟩=>s.size+1 - k) (0,(some ⟨g1,0,none⟩),0,0,[]) ⟨Nat.zero_le _,fun _=>aN0,fun h=>absurd h (Nat.not_lt_zero _),Nat.le_refl _,Nat.le_refl _⟩ (.c .z (.c .g1 (.c .g2 (.c .g4 (.c .g5 (.c .g6 .n)))))) (fun _ h=>h.sel (.c .z (.c .z .n))) ?_
 rintro⟨k,aa,ab,m,o⟩ ⟨hk,hI,hE,hmk,hol⟩
 refine Y.seq (Y.seq (Y.region (Y.mv rfl .z (Y.mv rfl .g5 (Y.ql rfl (lZ rfl u_9 (.t .z)) (Y.ql rfl (aB0 rfl (.t .g2) (.t .z)) (Y.nt ?_)))))))
 refine Y.u (.t .z) (fun b3=> ?_) (fun b3=> ?_)
 refine Y.skip (Y.g (Y.seq (Y.block (Y.seq (Y.region (Y.mv rfl .g4 (Y.mv rfl .g9 (Y.ql rfl (lZ rfl u_9 (.t .z)) ?_))))))))
 refine Y.ql rfl (bU rfl (.t .g2) (.t .z)) (Y.mv rfl .z ?_)
 refine Y.al .z (fun g4=> ?_) (fun g4=> ?_)
 refine Y.r rfl rfl .z rfl rfl (by decide) rfl ?_
 refine Y.r rfl rfl .g1 rfl rfl (by decide) rfl ?_
 refine Y.r rfl rfl .g2 rfl rfl (by decide) rfl ?_
 refine Y.r rfl rfl .g3 rfl rfl (by decide) rfl ?_
 refine Y.r rfl rfl .g4 rfl rfl (by decide) rfl ?_
 refine Y.ql rfl (bI rfl (.t .g5) .c) (Y.nt ?_)
 refine Y.aq (.t .z) ?_
 refine Y.seq (Y.region (Y.mv rfl (.s16 .g1) (Y.mv rfl (.s16 .g4) (Y.mv rfl (.s16 .g2) (Y.mv rfl (.s16 .g2) ?_)))))
 refine Y.ql rfl (rO (a:=m) (b:=k) rfl u_9 (.t .g2) (.inr ⟨_,_,rfl,(.t .g1)⟩) (.inr ⟨_,_,rfl,(.t .z)⟩) (by omega) (by omega)) ?_
 refine Y.el rfl (aQ (cs:= [.string (ByteArray.extract s m k)]) rfl eQ (inz jK) (by decide) (pv1 (.t .z)) rfl rfl (by decide) rfl rfl) ?_
 rintro _ _ ⟨g5,rfl,rfl⟩
 refine Y.add (c:=aH pQ (ByteArray.extract s m k) [.string (ByteArray.extract s m k)]) (fun _ _=>⟨rfl,by first | assumption | exact aB2 (by assumption)⟩) ?_
 refine Y.el rfl (dK rfl eQ jK rfl (.t .g5) (.t .z) (.c .g2 (.c .g1 (.c .z .n))) (by first | omega |(simp only [List.length_append,List.length_take,List.length_nil,List.length_cons];omega)) (by first | omega |(simp only [List.length_append,List.length_take,List.length_nil,List.length_cons];omega))) ?_
 rintro _ _ rfl
 refine Y.h (WS.a .z) ?_
 rintro⟨ai,aj,rfl,ak,al,am⟩
 refine Y.er (.s16 .g8) (Y.as rfl .z (Y.nt (Y.region (Y.mv rfl (.s16 .g7) ?_))))
 refine Y.ql rfl (bN (c:=((k+1:Nat):Int)) rfl (.t .z) .c (wr (by omega) (by omega) (by omega))) ?_
 refine Y.er (.s16 .g10) (Y.as rfl .z (Y.nil (Y.ab (Y.g (Y.region (Y.mv rfl (.s16 .g10) ?_))))))
 refine Y.ql rfl (bN (c:=((k+1:Nat):Int)) rfl (.t .z) .c (wr (by omega) (by omega) (by omega))) ?_
 refine Y.er (.s16 .g12) (Y.as rfl .z (Y.nil ?_))
 refine Y.ae ((k+1),ai,aj,k+1,o++ [ByteArray.extract s m k]) ⟨by omega,(by first | exact⟨fun h=>absurd h (by omega),fun _=>aC9 (hI (by omega)) (by omega),by omega,by simp only [List.length_append,List.length_cons,List.length_nil];omega⟩)⟩ (by first | omega |(dsimp only;omega)) (.c .z (.c .g3 (.c .g6 (.c (.s16 .g13) (.c (.s16 .g14) (.c (.s16 .g15) .n)))))) (fun _ h=>h.sel (.c .z (.c .z .n)))
 refine Y.qg rfl rfl .z rfl rfl rfl (aR rfl (.t .g13)) ?_
 refine Y.qg rfl rfl .g1 rfl rfl rfl (aR rfl (.t .g10)) ?_
 obtain⟨b8,ac⟩:=aK (xs:=s.data.toList) (j:=k) (by have:=iG s;omega)
 refine Y.qg rfl rfl .g2 rfl rfl rfl (mI rfl u_9 (.t .g1) (.t .z) rfl ac) ?_
 refine Y.qg rfl rfl .g3 rfl rfl rfl (aR rfl (.t (.s16 .g1))) ?_
 refine Y.qg rfl rfl .g4 rfl rfl rfl (bU rfl (.t .g1) (.t .z)) ?_
 refine Y.ql rfl (bH rfl (.t .g5) (.t .z)) (Y.nt ?_)
 refine Y.u (.t .z) (fun b9=> ?_) (fun b9=> ?_)
 refine Y.seq (Y.region (Y.mv rfl (.s16 .g1) (Y.mv rfl (.s16 .g4) (Y.mv rfl (.s16 .g2) (Y.mv rfl (.s16 .g2) ?_)))))
 refine Y.ql rfl (rO (a:=m) (b:=k) rfl u_9 (.t .g2) (.inr ⟨_,_,rfl,(.t .g1)⟩) (.inr ⟨_,_,rfl,(.t .z)⟩) (by omega) (by omega)) ?_
 refine Y.el rfl (aQ (cs:= [.string (ByteArray.extract s m k)]) rfl eQ (inz jK) (by decide) (pv1 (.t .z)) rfl rfl (by decide) rfl rfl) ?_
 rintro _ _ ⟨g10,rfl,rfl⟩
 refine Y.add (c:=aH pQ (ByteArray.extract s m k) [.string (ByteArray.extract s m k)]) (fun _ _=>⟨rfl,by first | assumption | exact aB2 (by assumption)⟩) ?_
 refine Y.el rfl (dK rfl eQ jK rfl (.t .g5) (.t .z) (.c .g2 (.c .g1 (.c .z .n))) (by first | omega |(simp only [List.length_append,List.length_take,List.length_nil,List.length_cons];omega)) (by first | omega |(simp only [List.length_append,List.length_take,List.length_nil,List.length_cons];omega))) ?_
 rintro _ _ rfl
 refine Y.h (WS.a .z) ?_
 rintro⟨ad,ae,rfl,af,ag,ah⟩
 refine Y.er (.s16 .g8) (Y.as rfl .z (Y.nt (Y.region (Y.mv rfl (.s16 .g7) ?_))))
 refine Y.ql rfl (bN (c:=((k+1:Nat):Int)) rfl (.t .z) .c (wr (by omega) (by omega) (by omega))) ?_
 refine Y.er (.s16 .g10) (Y.as rfl .z (Y.nil (Y.ab (Y.g (Y.region (Y.mv rfl (.s16 .g10) ?_))))))
 refine Y.ql rfl (bN (c:=((k+1:Nat):Int)) rfl (.t .z) .c (wr (by omega) (by omega) (by omega))) ?_
 refine Y.er (.s16 .g12) (Y.as rfl .z (Y.nil ?_))
 refine Y.ae ((k+1),ad,ae,k+1,o++ [ByteArray.extract s m k]) ⟨by omega,(by first | exact⟨fun h=>absurd h (by omega),fun _=>aC9 (hI (by omega)) (by omega),by omega,by simp only [List.length_append,List.length_cons,List.length_nil];omega⟩ | exact⟨fun _=>aMj (hI (by omega)) ac (oP.1 (by omega)),fun h=>absurd h (by omega),by omega,by simp only [List.length_append,List.length_cons,List.length_nil];omega⟩ | exact⟨fun _=>aL0 (hI (by omega)) ac (fun e=>absurd (oP.2 e) (by omega)),fun h=>absurd h (by omega),by omega,by omega⟩)⟩ (by first | omega |(dsimp only;omega)) (.c .z (.c .g3 (.c .g6 (.c (.s16 .g13) (.c (.s16 .g14) (.c (.s16 .g15) .n)))))) (fun _ h=>h.sel (.c .z (.c .z .n)))
 refine Y.skip (Y.ab (Y.g (Y.region (Y.mv rfl .g15 ?_))))
 refine Y.ql rfl (bN (c:=((k+1:Nat):Int)) rfl (.t .z) .c (wr (by omega) (by omega) (by omega))) ?_
 refine Y.er (.s16 .g1) (Y.as rfl .z (Y.nil ?_))
 refine Y.ae ((k+1),aa,ab,m,o) ⟨by omega,(by first | exact⟨fun h=>absurd h (by omega),fun _=>aC9 (hI (by omega)) (by omega),by omega,by simp only [List.length_append,List.length_cons,List.length_nil];omega⟩ | exact⟨fun _=>aMj (hI (by omega)) ac (oP.1 (by omega)),fun h=>absurd h (by omega),by omega,by simp only [List.length_append,List.length_cons,List.length_nil];omega⟩ | exact⟨fun _=>aL0 (hI (by omega)) ac (fun e=>absurd (oP.2 e) (by omega)),fun h=>absurd h (by omega),by omega,by omega⟩)⟩ (by first | omega |(dsimp only;omega)) (.c .z (.c (.s16 .g2) (.c (.s16 .g3) (.c (.s16 .g4) (.c (.s16 .g5) (.c (.s16 .g6) .n)))))) (fun _ h=>h.sel (.c .z (.c .z .n)))
 refine Y.exit (Y.y (Y.y (Y.ag (Y.g (Y.seq (Y.region (Y.mv rfl .g6 (Y.er .g8 ?_))))))))
 refine Y.as rfl .z (Y.nt (Y.ret ?_))
 refine Y.i (aU rfl .z) (.c .z .n) ?_
 rw [←hE (by omega)]

theorem aH5 {w0:World}{S0:Bs} (s:ByteArray) (aj:s.size≤140737488351232):
    Calls Tryz.prog 134 #[.string s] w0 (aI w0 S0 (fun r l=>∃v:Value,r= .tuple #[v,.int .i64 (eS s)]∧l= [aH cT (bC s) [v]])):=by
 refine Y.enter (N:=37) Tryz.func134 rfl rfl (by simp) [(0,.string s)] (by simp) (l0:= []) trivial ?_
 refine Y.seq (Y.region (Y.ql rfl (aA rfl .c) (Y.ql rfl (aA rfl .c) (Y.nt (Y.seq (Y.seq (Y.region ?_)))))))
 refine Y.mv rfl .g2 (Y.ql rfl (lZ rfl u_9 (.t .z)) (Y.ql rfl (fI rfl (.t .z) .c) (Y.nt ?_)))
 refine Y.u (.t .z) (fun b1=> ?_) (fun b1=> ?_)
 refine Y.seq (Y.region (Y.er .g4 (Y.ql rfl (aA rfl .c) (Y.er .g4 (Y.ql rfl (aA rfl .c) (Y.nt (Y.ret ?_)))))))
 refine Y.j ?_
 refine Y.add (c:=aH cT [] [.slice none 0 0]) (fun w S=>aL w S none) ?_
 refine Y.i (lA rfl .g1 .z) (.c .z .n) ?_
 have hh:=aE8 (s:=s) (by omega);rw [hh.1,hh.2];exact⟨_,rfl,rfl⟩
 refine Y.skip (Y.g (Y.seq (Y.seq (Y.region (Y.mv rfl .g5 (Y.ql rfl (sU rfl (.t .z) .c) (Y.nt ?_)))))))
 refine Y.u (.t .z) (fun b3=> ?_) (fun b3=> ?_)
 refine Y.seq (Y.region ?_)
 refine Y.el rfl (eA rfl eQ (inz jK)) ?_
 rintro _ _ ⟨g4,rfl,rfl⟩
 refine Y.er .g7 (Y.as rfl .z (Y.er .g7 (Y.ql rfl (aA rfl .c) (Y.nt (Y.ret (Y.j ?_))))))
 refine Y.add (c:=aH cT ([]:(List ByteArray)) [.slice (some ⟨g4,0,none⟩) 0 0]) (fun w S=>aL w S _) ?_
 refine Y.i (lA rfl .g1 .z) (.c .z .n) ?_
 have hh:=wO (s:=s) (by omega) (by assumption);rw [hh.1,hh.2];exact⟨_,rfl,rfl⟩
 refine Y.skip (Y.g (Y.seq (Y.seq (Y.region (Y.mv rfl .g7 (Y.ql rfl (lZ rfl u_9 (.t .z)) (Y.ql rfl (bU rfl (.t .z) .c) (Y.mv rfl .z ?_))))))))
 refine Y.al .z (fun g6=> ?_) (fun g6=> ?_)
 refine Y.r rfl rfl .z rfl rfl (by decide) rfl ?_
 refine Y.r rfl rfl .g1 rfl rfl (by decide) rfl ?_
 refine Y.r rfl rfl .g2 rfl rfl (by decide) rfl ?_
 refine Y.ql rfl (bI rfl (.t .g3) .c) (Y.mv rfl .z ?_)
 refine Y.r rfl rfl .z rfl rfl (by decide) rfl ?_
 refine Y.r rfl rfl .g1 rfl rfl (by decide) rfl ?_
 refine Y.r rfl rfl .g2 rfl rfl (by decide) rfl ?_
 refine Y.r rfl rfl .g3 rfl rfl (by decide) rfl ?_
 refine Y.r rfl rfl .g4 rfl rfl (by decide) rfl ?_
 refine Y.r rfl rfl .g5 rfl rfl (by decide) rfl ?_
 refine Y.ql rfl (bI rfl (.t .g6) .c) (Y.nt ?_)
 refine Y.aq (.t .z) ?_
 refine Y.seq (Y.region (Y.er (.s16 .g6) (Y.ql rfl (aA rfl .c) (Y.er (.s16 .g6) (Y.ql rfl (aA rfl .c) (Y.nt (Y.ret ?_)))))))
 refine Y.j ?_
 refine Y.add (c:=aH cT [] [.slice none 0 0]) (fun w S=>aL w S none) ?_
 refine Y.i (lA rfl .g1 .z) (.c .z .n) ?_
 have hh:=tT (s:=s) (by omega) (by assumption) (by first | exact aCg (by omega) | exact .inl (by assumption) | exact .inr (by assumption));rw [hh.1,hh.2];exact⟨_,rfl,rfl⟩
 refine Y.qg rfl rfl .z rfl rfl rfl (aR rfl (.t .g11)) ?_
 obtain⟨b8,ab⟩:=aK (xs:=s.data.toList) (j:=0) (by have:=iG s;omega)
 refine Y.qg rfl rfl .g1 rfl rfl rfl (mI rfl u_9 (.t .z) .c rfl ab) ?_
 refine Y.qg rfl rfl .g2 rfl rfl rfl (bW rfl (.t .z) .c) ?_
 refine Y.ql rfl (bH rfl (.t .g3) (.t .z)) (Y.mv rfl .z ?_)
 refine Y.an .z (fun g9=> ?_) (fun g9=> ?_)
 refine Y.r rfl rfl .z rfl rfl (by decide) rfl ?_
 refine Y.r rfl rfl .g1 rfl rfl (by decide) rfl ?_
 refine Y.r rfl rfl .g2 rfl rfl (by decide) rfl ?_
 refine Y.r rfl rfl .g3 rfl rfl (by decide) rfl ?_
 refine Y.r rfl rfl .g4 rfl rfl (by decide) rfl ?_
 refine Y.r rfl rfl .g5 rfl rfl (by decide) rfl ?_
 refine Y.ql rfl (bI rfl (.t .g6) .c) (Y.nt ?_)
 refine Y.aq (.t .z) ?_
 refine Y.seq (Y.region (Y.er (.s16 .g6) (Y.ql rfl (aA rfl .c) (Y.er (.s16 .g6) (Y.ql rfl (aA rfl .c) (Y.nt (Y.ret ?_)))))))
 refine Y.j ?_
 refine Y.add (c:=aH cT [] [.slice none 0 0]) (fun w S=>aL w S none) ?_
 refine Y.i (lA rfl .g1 .z) (.c .z .n) ?_
 have hh:=tT (s:=s) (by omega) (by assumption) (by first | exact aCg (by omega) | exact .inl (by assumption) | exact .inr (by assumption) | exact aKc ab (by omega));rw [hh.1,hh.2];exact⟨_,rfl,rfl⟩
 refine Y.qg rfl rfl .z rfl rfl rfl (aR rfl (.t .g16)) ?_
 refine Y.qg rfl rfl .g1 rfl rfl rfl (aR rfl (.t (.s16 .g1))) ?_
 refine Y.qg rfl rfl .g2 rfl rfl rfl (lZ rfl u_9 (.t .z)) ?_
 refine Y.qg rfl rfl .g3 rfl rfl rfl (iT (c:=(s.size:Int) - 1) rfl (.t .z) .c (wr (by omega) (by omega) (by omega))) ?_
 obtain⟨ak,aa⟩:=aK (xs:=s.data.toList) (j:=Int.toNat ((s.size:Int) - 1)) (by have:=iG s;omega)
 refine Y.qg rfl rfl .g4 rfl rfl rfl (mI rfl u_9 (.t .g3) (.t .z) (by omega) aa) ?_
 refine Y.qg rfl rfl .g5 rfl rfl rfl (bU rfl (.t .z) .c) ?_
 refine Y.ql rfl (bH rfl (.t .g6) (.t .z)) (Y.nt ?_)
 refine Y.u (.t .z) (fun af=> ?_) (fun af=> ?_)
 refine Y.seq (Y.region (Y.er (.s16 .g6) (Y.ql rfl (aA rfl .c) (Y.er (.s16 .g6) (Y.ql rfl (aA rfl .c) (Y.nt (Y.ret ?_)))))))
 refine Y.j ?_
 refine Y.add (c:=aH cT [] [.slice none 0 0]) (fun w S=>aL w S none) ?_
 refine Y.i (lA rfl .g1 .z) (.c .z .n) ?_
 have hh:=tT (s:=s) (by omega) (by assumption) (by first | exact aCg (by omega) | exact .inl (by assumption) | exact .inr (by assumption) | exact aKc ab (by omega) | exact aMp aa (by omega) (by omega));rw [hh.1,hh.2];exact⟨_,rfl,rfl⟩
 refine Y.skip (Y.g (Y.seq (Y.region (Y.mv rfl (.s16 .g7) ?_))))
 refine Y.ql rfl (rO (a:=1) (b:=s.size) rfl u_9 (.t .z) (.inr ⟨_,_,rfl,.c⟩) (.inl ⟨rfl,rfl⟩) (by omega) (by omega)) ?_
 refine Y.cl rfl rfl Tryz.func162 rfl rfl (aS (.t .z) .c) .n (fun _ _ hs tr=>aMl _ (by rw [ByteArray.size_extract];omega) _ (by first | rfl | decide) (by first | omega |(rw [ByteArray.size_extract];omega))) ?_
 rintro _ _ rfl
 refine Y.m (.c .n) ?_
 refine Y.h (WS.a .z) ?_
 rintro⟨ag,ah,rfl,ac,ad,ae⟩
 refine Y.as rfl .z (Y.nt (Y.seq (Y.seq (Y.region (Y.mv rfl .z ?_)))))
 refine Y.cl rfl rfl Tryz.func163 rfl rfl (bG (.t .z)) .n (fun _ _ hs tr=>aMf (tr.own .z)) ?_
 rintro _ _ ⟨rfl,rfl⟩
 refine Y.m .n ?_
 refine Y.as rfl .z (Y.nt (Y.seq (Y.region (Y.mv rfl .z (Y.ql rfl (bW rfl (.t .z) .c) (Y.nt ?_))))))
 refine Y.ac (.t .z) (fun ai=> ?_) (fun ai=> ?_)
 refine Y.seq (Y.region (Y.mv rfl .g2 (Y.er (.s16 .g16) (Y.ql rfl (aA rfl .c) (Y.er (.s16 .g16) (Y.as rfl .g1 (Y.nt ?_)))))))
 refine Y.ret (Y.j ?_)
 refine Y.add (c:=aH cT [] [.slice none 0 0]) (fun w S=>aL w S none) ?_
 refine Y.i (lA rfl .g1 .z) (.c .z .n) ?_
 have hh:=aAi (s:=s) (by omega) (by assumption) (by first | exact yY (by assumption) (by assumption) | exact aNd ab (by omega) aa (by omega) (by omega)) (by assumption);rw [hh.1,hh.2];exact⟨_,rfl,rfl⟩
 refine Y.skip (Y.g (Y.seq (Y.region (Y.mv rfl .g5 (Y.er (.s16 .g16) (Y.as rfl .z (Y.er (.s16 .g16) (Y.ql rfl (aA rfl .c) ?_))))))))
 refine Y.nt (Y.ret ?_)
 refine Y.i (lA rfl .g1 .z) (.c .z .n) ?_
 have hh:=aA1 (s:=s) (by omega) (by assumption) (by first | exact yY (by assumption) (by assumption) | exact aNd ab (by omega) aa (by omega) (by omega)) (by first | assumption | omega);rw [hh.1,hh.2];exact⟨_,rfl,rfl⟩

end Go.Proofs.YtmejbfmhaoilmaaGreatDoor
/- What is proved: contracts of functions, one a function. No condition. -/
namespace Go.Proofs.YtmejbfmhaoilmaaGreatDoor
open Go Go.RowKit
set_option linter.unusedVariables false
set_option linter.unusedSimpArgs false
set_option maxHeartbeats 1000000
set_option maxRecDepth 20000
theorem aL3 {w0:World}{S0:Bs} (s:ByteArray) (ai:s.size≤140737488351232):
    Calls Tryz.prog 130 #[.string s] w0 (aI w0 S0 (fun r l=>∃v:Value,r= .tuple #[v,.string (nI s),.int .i64 (jF s)]∧l= [aH cT (fO s) [v]])):=by
 refine Y.enter (N:=29) Tryz.func130 rfl rfl (by simp) [(0,.string s)] (by simp) (l0:= []) trivial ?_
 refine Y.seq (Y.region (Y.ql rfl (aA rfl .c) (Y.ql rfl (aA rfl .c) (Y.ql rfl (aA rfl .c) (Y.nt (Y.seq (Y.region ?_)))))))
 refine Y.mv rfl .g3 ?_
 refine Y.cl rfl rfl Tryz.func134 rfl rfl (bG (.t .z)) .n (fun _ _ hs tr=>aH5 _ (by first | assumption | omega)) ?_
 rintro _ _ ⟨v1,rfl,rfl⟩
 refine Y.m (.c .n) ?_
 refine Y.h (WS.a .z) ?_
 rintro⟨ad,aa,rfl,ae,af,ag⟩
 have ab:=(lI s).1
 refine Y.mv rfl .z (Y.ql rfl (bF (v:= .slice ad (bC s).length aa) rfl (.t .z) rfl) (Y.ql rfl (bF (v:= .int .i64 (eS s)) rfl (.t .g1) rfl) (Y.as rfl .g1 (Y.as rfl .g1 (Y.nt (Y.seq (Y.seq ?_)))))))
 refine Y.region (Y.mv rfl .z (Y.ql rfl (bW rfl (.t .z) .c) (Y.nt ?_)))
 refine Y.ac (.t .z) (fun b4=> ?_) (fun b4=> ?_)
 refine Y.seq (Y.region (Y.mv rfl .g2 (Y.er .g12 (Y.ql rfl (aA rfl .c) (Y.er .g12 (Y.ql rfl (aA rfl .c) (Y.er .g12 (Y.as rfl .g2 ?_))))))))
 refine Y.nt (Y.ret (Y.j ?_))
 refine Y.add (c:=aH cT [] [.slice none 0 0]) (fun w S=>aL w S none) ?_
 refine Y.i (wC rfl .g2 .g1 .z) (.c .z .n) ?_
 first |(have hh:=uX (s:=s) (by assumption);rw [hh.1,hh.2.1,hh.2.2];exact⟨_,rfl,rfl⟩) |(have hh:=vH (s:=s) (by assumption) (lU.1 (by assumption));rw [hh.1,hh.2.1,hh.2.2];exact⟨_,rfl,rfl⟩)
 refine Y.skip (Y.g (Y.seq (Y.seq (Y.region (Y.mv rfl .g3 (Y.ql rfl (bD rfl eQ (.t .z)) (Y.ql rfl (bU rfl (.t .z) .c) (Y.nil ?_))))))))
 refine Y.g ?_
 refine Y.u (.t .z) (fun b6=> ?_) (fun b6=> ?_)
 refine Y.seq (Y.region (Y.er .g14 (Y.ql rfl (aA rfl .c) (Y.er .g14 (Y.ql rfl (aA rfl .c) (Y.er .g14 (Y.ql rfl (aA rfl .c) (Y.nil ?_))))))))
 refine Y.g (Y.ret (Y.j ?_))
 refine Y.add (c:=aH cT [] [.slice none 0 0]) (fun w S=>aL w S none) ?_
 refine Y.i (wC rfl .g2 .g1 .z) (.c .z .n) ?_
 first |(have hh:=uX (s:=s) (by assumption);rw [hh.1,hh.2.1,hh.2.2];exact⟨_,rfl,rfl⟩) |(have hh:=vH (s:=s) (by assumption) (lU.1 (by assumption));rw [hh.1,hh.2.1,hh.2.2];exact⟨_,rfl,rfl⟩)
 refine Y.skip (Y.g (Y.seq ?_))
 refine Y.dr .z 13 fR ?_
 refine Y.sc (qs 0 13++ [(13,false)]) (by kernel_rfl) ?_
 refine Y.dm rfl rfl .z .g6 (Y.dm rfl rfl .z .g7 (Y.dk rfl rfl .z (bD rfl eQ (.t .z)) ?_))
 refine Y.dk rfl rfl .z (iT (c:=((bC s).length:Int) - 1) rfl (.t .z) .c (wr (by omega) (by omega) (by omega))) ?_
 refine Y.eq .z (congrArg (Value.int .i64) (show((bC s).length:Int) - 1=((Int.toNat (((bC s).length:Int) - 1):Nat):Int) by omega)) ?_
 refine Y.dk rfl rfl .z (jJ (b:=Int.toNat (((bC s).length:Int) - 1)) rfl eQ mU (.t .g3) (.t .z) (by omega)) ?_
 refine Y.dm rfl rfl .z .g11 (Y.dm rfl rfl .z .g12 (Y.dk rfl rfl .z (bD rfl eQ (.t .z)) ?_))
 refine Y.dk rfl rfl .z (iT (c:=((bC s).length:Int) - 1) rfl (.t .z) .c (wr (by omega) (by omega) (by omega))) ?_
 refine Y.h (WS.h .z (by omega)) ?_
 rintro⟨ah,rfl⟩
 refine Y.dk rfl rfl .z (aB (j:=Int.toNat (((bC s).length:Int) - 1)) rfl eQ mU (.t .g3) (.t .z) (by omega) (by omega)) ?_
 obtain⟨x9,ac⟩:=aK (xs:=bC s) (j:=Int.toNat (((bC s).length:Int) - 1)) (by omega)
 refine Y.dk rfl rfl .z (aM rfl iH (.t .z) (WS.m .z ac)) (Y.er (.s16 .g9) (Y.dk rfl rfl .z (aA rfl (.t .g6)) (Y.er (.s16 .g9) (Y.dk rfl rfl .z (aA rfl (.t .g1)) (Y.er (.s16 .g9) ?_)))))
 refine Y.q (aC rfl rfl) rfl (by decide) rfl (aA rfl .c) ?_
 refine Y.sl rfl ?_
 refine Y.w ?_
 refine Y.af (by kernel_rfl) ?_
 refine Y.g (Y.ret ?_)
 refine Y.ad (c:=aH cT (List.take (Int.toNat (((bC s).length:Int) - 1)) (bC s)) [.slice (some ah) (Int.toNat (((bC s).length:Int) - 1)) aa]) (.c .z .n) (xU (by omega)) ?_
 refine Y.i (wC rfl .g2 .g1 .z) (.c .z .n) ?_
 have hh:=vA (s:=s) (by assumption) (fun e=>absurd (lU.2 e) (by assumption));rw [hh.1,hh.2.1,hh.2.2 _ _ (by omega) ac];exact⟨_,rfl,by rw [show Int.toNat (((bC s).length:Int) - 1)=(bC s).length - 1 by omega]⟩

end Go.Proofs.YtmejbfmhaoilmaaGreatDoor
/- What is proved: contracts of functions, one a function. No condition. -/
namespace Go.Proofs.YtmejbfmhaoilmaaGreatDoor
open Go Go.RowKit
set_option linter.unusedVariables false
set_option linter.unusedSimpArgs false
set_option maxHeartbeats 1000000
set_option maxRecDepth 20000
theorem aMk {w0:World}{S0:Bs}{f:DFs}{a1:Addr} (h0:eV dV w0 (FF w0 S0) a1 f) {x:(List ByteArray)}{v1:Value} (h1:cT.ro w0 (FF w0 S0) x [v1]) (ht:aX f=0):
    Calls Tryz.prog 131 #[.pointer (some a1),v1] w0 (aI w0 S0 (fun r l=>r= .tuple #[.int .i64 (wkC f.inodes 0 x).1,.int .i64 (wkC f.inodes 0 x).2]∧l= [])):=by
 obtain⟨cc,a2,bv,a3⟩:=id h0
 obtain⟨bw,bx,rfl,a4,a5⟩:=bZ bv
 obtain⟨bz,b0,rfl,bf,bg,bh,al⟩:=aD a4
 obtain⟨b1,b2,rfl,bi,bj,bk,bm⟩:=aD a5
 obtain⟨A1,c1,rfl,cd,ce,cf,b3⟩:=aD h1
 have hI:=hU ht
 have cg:=kA ht
 refine Y.enter (N:=52) Tryz.func131 rfl rfl (by simp) [(0,.pointer (some a1)),(1,.slice A1 x.length c1)] (by simp) (l0:= []) trivial ?_
 refine Y.seq (Y.region (Y.ql rfl (aA rfl .c) (Y.ql rfl (aA rfl .c) (Y.nt (Y.seq (Y.region (Y.ql rfl (aA rfl .c) ?_)))))))
 refine Y.nt (Y.seq (Y.seq (Y.region (Y.ql rfl (aA rfl .c) (Y.nt (Y.block ?_))))))
 refine Y.ai (γ:=Nat×Int) (fun⟨k,a⟩=> [(7,.int .i64 (k:Int)),(6,.int .i64 a),(0,.pointer (some a1)),(1,.slice A1 x.length c1)]) (fun⟨k,a⟩=> []) (fun⟨k,a⟩=>k≤x.length∧bQ f.inodes.length a∧wkC f.inodes 0 x=wkC f.inodes a (x.drop k)) (fun⟨k,a⟩=>x.length - k) (0,0) ⟨Nat.zero_le _,kA ht,rfl⟩ (.c .z (.c .g1 (.c .g4 (.c .g5 .n)))) (fun _ h=>h) ?_
 rintro⟨k,a⟩ ⟨hk,hpa,hwk⟩
 obtain⟨ch,ci⟩:=hpa
 have hor:=fun s:ByteArray=>rU (s:=s) (a:=a) ht rfl
 refine Y.seq (Y.seq (Y.region (Y.mv rfl .z (Y.mv rfl .g4 (Y.ql rfl (bD rfl eQ (.t .z)) (Y.ql rfl (dA rfl (.t .g2) (.t .z)) (Y.nt ?_)))))))
 refine Y.u (.t .z) (fun b4=> ?_) (fun b4=> ?_)
 refine Y.skip (Y.g (Y.seq (Y.block (Y.seq (Y.seq (Y.region (Y.mv rfl .g6 (Y.nc rfl .z ?_))))))))
 refine Y.fa rfl .z aP (Y.le rfl bR .z a2 a3 (Y.mv rfl .g9 ?_))
 obtain⟨cj,am,an⟩:=al (by omega)
 subst am
 obtain⟨x6,ao⟩:=aK (xs:=f.inodes) (j:=Int.toNat a) (by first | omega)
 obtain⟨b5,a6,ac,ad⟩:=an.elem ao
 obtain⟨bn,bo,rfl,ap,aa⟩:=bY a6
 obtain⟨bp,bq,rfl,a7,a8,a9,ba⟩:=aD ap
 obtain⟨br,bs,rfl,bb,bc,bd,ae⟩:=aD aa
 have ck:=cO (i:=a) ao (by omega)
 have aq:=cP (a:=a) ao (by omega)
 have cm:=dL (a:=a) ao (by omega)
 have cn:=mR (a:=a) ao (by omega)
 refine Y.ql rfl (aB (j:=Int.toNat a) rfl cQ aT (.t .g1) (.t .z) (by omega) (by first | omega)) ?_
 refine Y.fa rfl .z bS (Y.le rfl bP .z ac ad (Y.ql rfl (bW rfl (.t .z) .c) (Y.nt ?_)))
 refine Y.ac (.t .z) (fun b6=> ?_) (fun b6=> ?_)
 refine Y.seq (Y.region (Y.ql rfl (aA rfl .c) (Y.ql rfl (aA rfl .c) (Y.nt (Y.ret (Y.j (Y.v ?_)))))))
 refine Y.j (Y.j (Y.v (Y.j ?_)))
 refine Y.i (lA rfl .g1 .z) .n ?_
 obtain⟨zn,hzn⟩:=aK (xs:=x) (j:=k) (by omega);rw [hwk,aLb hzn (by omega)];exact⟨rfl,rfl⟩
 refine Y.skip (Y.g (Y.seq ?_))
 refine Y.dr .z 13 fR ?_
 refine Y.sc (qs 0 12++ [(12,false),(13,false)]) (by kernel_rfl) ?_
 refine Y.dm rfl rfl .z .g15 (Y.dn rfl rfl .z .z (Y.df rfl rfl .z .z aP (Y.de rfl rfl .z bR .z a2 a3 (Y.dm rfl rfl .z (.s16 .g2) ?_))))
 refine Y.dk rfl rfl .z (aB (j:=Int.toNat a) rfl cQ aT (.t .g1) (.t .z) (by omega) (by first | omega)) ?_
 refine Y.df rfl rfl .z .z bL (Y.de rfl rfl .z dX .z ac ad (Y.dm rfl rfl .z (.s16 .g8) (Y.dm rfl rfl .z (.s16 .g6) ?_)))
 obtain⟨b7,af,ag⟩:=b3 (by omega)
 subst af
 obtain⟨ab,ah⟩:=aK (xs:=x) (j:=k) (by first | omega)
 obtain⟨bt,ar,au,av⟩:=ag.elem ah
 obtain⟨rfl,b8⟩:=ar
 refine Y.dk rfl rfl .z (aB (j:=k) rfl eQ mU (.t .g1) (.t .z) rfl (by first | omega)) ?_
 refine Y.dk rfl rfl .z (aM rfl iH (.t .z) (WS.i au av rfl)) ?_
 refine Y.call (aC rfl rfl) rfl (by decide) rfl (bE rfl Tryz.func102 rfl rfl (aS (.t .g4) (.t .z))) .n (fun _ _ hs tr=>sD (tr.ctx aa) _ (by first | assumption | omega)) ?_
 rintro _ _ ⟨rfl,rfl⟩
 refine Y.m .n ?_
 refine Y.sk .z ?_
 refine Y.q (aC rfl rfl) rfl (by decide) rfl (aA rfl (.t .z)) ?_
 refine Y.sl rfl ?_
 refine Y.w ?_
 refine Y.af (by kernel_rfl) ?_
 refine Y.g (Y.seq (Y.seq (Y.region (Y.mv rfl .z (Y.ql rfl (dA rfl (.t .z) .c) (Y.nt ?_))))))
 refine Y.u (.t .z) (fun b9=> ?_) (fun b9=> ?_)
 have aw:=rU (s:=ab) (a:=a) ht aq
 have ax:=gB (dE ab) x6.ents
 refine Y.seq (Y.region (Y.ql rfl (aA rfl .c) (Y.ql rfl (aA rfl .c) (Y.nt (Y.ret (Y.j (Y.v ?_)))))))
 refine Y.j (Y.j (Y.v (Y.j ?_)))
 refine Y.i (lA rfl .g1 .z) .n ?_
 have h9:=rU (s:=ab) (a:=a) ht aq;have h8:=hor ab;rw [hwk,aKm ah (by omega) (by omega)];exact⟨rfl,rfl⟩
 have aw:=rU (s:=ab) (a:=a) ht aq
 have ax:=gB (dE ab) x6.ents
 refine Y.skip (Y.g (Y.region (Y.mv rfl (.s16 .g15) (Y.nc rfl .z (Y.fa rfl .z aP (Y.le rfl bR .z a2 a3 (Y.mv rfl (.s16 (.s16 .g2)) ?_)))))))
 refine Y.ql rfl (aB (j:=Int.toNat a) rfl cQ aT (.t .g1) (.t .z) (by omega) (by first | omega)) ?_
 refine Y.fa rfl .z bL (Y.le rfl dX .z ac ad (Y.mv rfl .g10 ?_))
 obtain⟨ca,ai,aj⟩:=ae (by omega)
 subst ai
 obtain⟨cb,ak⟩:=aK (xs:=x6.ents) (j:=Int.toNat (eX (dE ab) x6.ents)) (by first | omega)
 obtain⟨bu,ay,az,a0⟩:=aj.elem ak
 obtain⟨rfl,be⟩:=eY ay
 refine Y.ql rfl (aB (j:=Int.toNat (eX (dE ab) x6.ents)) rfl dP fA (.t .g1) (.t .z) (by omega) (by first | omega)) ?_
 refine Y.fa rfl .z gG (Y.le rfl bP .z az a0 (Y.er (.s16 (.s16 .g10)) (Y.as rfl .z (Y.nil (Y.ab (Y.g (Y.region (Y.mv rfl (.s16 (.s16 .g10)) ?_))))))))
 refine Y.ql rfl (bN (c:=((k+1:Nat):Int)) rfl (.t .z) .c (wr (by omega) (by omega) (by omega))) ?_
 refine Y.er (.s16 (.s16 .g12)) (Y.as rfl .z (Y.nil ?_))
 refine Y.ae ((k+1),cb.ino) ⟨by omega,(by have h9:=uR (by assumption) ak;rw [←aq] at h9;rw [←h9];exact sW ht (by omega)),(by have h9:=uR (by assumption) ak;rw [←aq] at h9;rw [←h9];have h8:=aLi ah (show aY f.inodes a=2 by omega) (by omega);rw [hwk,h8])⟩ (by first | omega |(dsimp only;omega)) (.c .z (.c .g3 (.c (.s16 (.s16 .g13)) (.c (.s16 (.s16 .g14)) .n)))) (fun _ h=>h)
 refine Y.exit (Y.y (Y.y (Y.ag (Y.g (Y.seq (Y.region (Y.mv rfl .g5 (Y.as rfl .z ?_))))))))
 refine Y.ql rfl (aA rfl .c) (Y.nt (Y.ret ?_))
 refine Y.i (lA rfl .g1 .z) .n ?_
 rw [hwk,aD0 (by omega)];exact⟨rfl,rfl⟩

theorem aMh {w0:World}{S0:Bs}{f:DFs}{aa:Addr} (h0:eV dV w0 (FF w0 S0) aa f) (s:ByteArray) (a1:s.size≤140737488351232) (ht:aX f=0):
    Calls Tryz.prog 106 #[.pointer (some aa),.string s] w0 (aI w0 S0 (fun r l=>r= .tuple #[.int .i64 (cC f s).1,.int .i64 (cC f s).2]∧l= [])):=by
 obtain⟨a2,a3,an,a4⟩:=id h0
 obtain⟨ao,ap,rfl,ab,ac⟩:=bZ an
 obtain⟨aq,ar,rfl,ad,ae,af,ag⟩:=aD ab
 obtain⟨au,av,rfl,ah,ai,aj,ak⟩:=aD ac
 refine Y.enter (N:=21) Tryz.func106 rfl rfl (by simp) [(0,.pointer (some aa)),(1,.string s)] (by simp) (l0:= []) trivial ?_
 refine Y.seq (Y.region (Y.ql rfl (aA rfl .c) (Y.ql rfl (aA rfl .c) (Y.nt (Y.seq (Y.region (Y.mv rfl .g3 ?_)))))))
 refine Y.cl rfl rfl Tryz.func134 rfl rfl (bG (.t .z)) .n (fun _ _ hs tr=>aH5 _ (by first | assumption | omega)) ?_
 rintro _ _ ⟨v3,rfl,rfl⟩
 refine Y.m (.c .n) ?_
 refine Y.h (WS.a .z) ?_
 rintro⟨aw,ax,rfl,ay,az,a0⟩
 have al:=(lI s).1
 refine Y.mv rfl .z (Y.ql rfl (bF (v:= .slice aw (bC s).length ax) rfl (.t .z) rfl) (Y.ql rfl (bF (v:= .int .i64 (eS s)) rfl (.t .g1) rfl) (Y.as rfl .g1 (Y.as rfl .g1 (Y.nt (Y.seq (Y.seq ?_)))))))
 refine Y.region (Y.mv rfl .z (Y.ql rfl (bW rfl (.t .z) .c) (Y.nt ?_)))
 refine Y.ac (.t .z) (fun b6=> ?_) (fun b6=> ?_)
 refine Y.seq (Y.region (Y.mv rfl .g2 (Y.er .g11 (Y.ql rfl (aA rfl .c) (Y.er .g11 (Y.as rfl .g1 (Y.nt ?_)))))))
 refine Y.ret (Y.j ?_)
 refine Y.i (lA rfl .g1 .z) .n ?_
 rw [aAf (by assumption)];exact⟨rfl,rfl⟩
 refine Y.skip (Y.g (Y.seq (Y.region (Y.mv rfl .g11 (Y.mv rfl .g4 ?_)))))
 refine Y.cl rfl rfl Tryz.func131 rfl rfl (aS (.t .g1) (.t .z)) .n (fun _ _ hs tr=>aMk (tr.ctxP h0) (tr.own .z) (by assumption)) ?_
 rintro _ _ ⟨rfl,rfl⟩
 refine Y.m .n ?_
 have am:=pL ht (bC s) 0 (kA ht)
 refine Y.ql rfl (bF (v:= .int .i64 ((wkC (f).inodes 0 (bC s)).1)) rfl (.t .z) rfl) (Y.ql rfl (bF (v:= .int .i64 ((wkC (f).inodes 0 (bC s)).2)) rfl (.t .g1) rfl) (Y.er .g15 (Y.as rfl .g1 (Y.er .g15 (Y.as rfl .g1 (Y.nt (Y.ret ?_)))))))
 refine Y.i (lA rfl .g1 .z) .n ?_
 rw [tJ (by assumption)];exact⟨rfl,rfl⟩

theorem aM8 {w0:World}{S0:Bs}{f:DFs}{a6:List Value} (h0:dV.ro w0 (FF w0 S0) f a6) (s:ByteArray) (bn:s.size≤140737488351232):
    Calls Tryz.prog 115 #[.agg a6.toArray,.string s] w0 (aI w0 S0 (aHx (gO f s))):=by
 obtain⟨bj,bk,rfl,ac,ad⟩:=bZ h0
 obtain⟨ag,ah,rfl,a7,a8,a9,ai⟩:=aD ac
 obtain⟨aj,ak,rfl,ba,bb,bc,bd⟩:=aD ad
 refine Y.enter (N:=57) Tryz.func115 rfl rfl (by simp) [(0,.agg #[.slice ag f.inodes.length ah,.slice aj f.data.length ak]),(1,.string s)] (by simp) (l0:= []) trivial ?_
 refine Y.seq (Y.region ?_)
 refine Y.el rfl (fQ (cs:= [.slice ag f.inodes.length ah,.slice aj f.data.length ak]) (n:=2) rfl (.t .z) rfl rfl) ?_
 rintro _ _ ⟨g3,rfl,rfl⟩
 refine Y.el rfl (bB rfl aGc rfl rfl) ?_
 rintro _ _ ⟨g4,rfl,rfl⟩
 refine Y.nt (Y.seq (Y.seq (Y.region ?_)))
 refine Y.cl rfl rfl Tryz.func18 rfl rfl (bG (.t .g1)) .n (fun _ _ hs tr=>aLk (tr.ptr .g1 (aJ f (tr.ctx ac) (tr.ctx ad)))) ?_
 rintro _ _ ⟨rfl,rfl⟩
 refine Y.m .n ?_
 refine Y.as rfl .z (Y.nt (Y.seq (Y.region (Y.mv rfl .z (Y.ql rfl (bW rfl (.t .z) .c) (Y.nt ?_))))))
 refine Y.ac (.t .z) (fun b5=> ?_) (fun b5=> ?_)
 refine Y.seq (Y.region (Y.mv rfl .g2 (Y.ql rfl (aW (cs:= [.int .i64 (cS f),.int .i64 0,.int .i64 0,.int .i64 0,.int .i64 0]) rfl wA (pv1 (.t .z)) rfl) ?_)))
 refine Y.es (aE rfl) rfl (esW rfl (.t .g6) (.t .z) .z kV rfl rfl) ?_
 refine Y.nt (Y.ret (Y.j ?_))
 refine Y.i (cU rfl .g6 uI .z kV) .n ?_
 first |(rw [pS (by assumption)];exact⟨rfl,rfl⟩) |(rw [pP hF (by assumption)];exact⟨rfl,rfl⟩)
 have hF:cS f=0:=b5
 have ht:=nE hF
 refine Y.skip (Y.g (Y.seq (Y.region (Y.mv rfl .g7 ?_))))
 refine Y.cl rfl rfl Tryz.func106 rfl rfl (aS (.t .g6) (.t .z)) .n (fun _ _ hs tr=>aMh (tr.ptr .g1 (aJ f (tr.ctx ac) (tr.ctx ad))) _ (by first | assumption | omega) (by assumption)) ?_
 rintro _ _ ⟨rfl,rfl⟩
 refine Y.m .n ?_
 have be:=qV ht s
 refine Y.mv rfl .z (Y.ql rfl (bF (v:= .int .i64 ((cC f s).1)) rfl (.t .z) rfl) (Y.ql rfl (bF (v:= .int .i64 ((cC f s).2)) rfl (.t .g1) rfl) (Y.as rfl .g1 (Y.as rfl .g1 (Y.nt (Y.seq (Y.seq ?_)))))))
 refine Y.region (Y.mv rfl .z (Y.ql rfl (bW rfl (.t .z) .c) (Y.nt ?_)))
 refine Y.ac (.t .z) (fun b7=> ?_) (fun b7=> ?_)
 refine Y.seq (Y.region (Y.mv rfl .g2 (Y.ql rfl (aW (cs:= [.int .i64 ((cC f s).2),.int .i64 0,.int .i64 0,.int .i64 0,.int .i64 0]) rfl wA (pv1 (.t .z)) rfl) ?_)))
 refine Y.es (aE rfl) rfl (esW rfl (.t .g15) (.t .z) .z kV rfl rfl) ?_
 refine Y.nt (Y.ret (Y.j ?_))
 refine Y.i (cU rfl .g15 uI .z kV) .n ?_
 first |(rw [pS (by assumption)];exact⟨rfl,rfl⟩) |(rw [pP hF (by assumption)];exact⟨rfl,rfl⟩)
 refine Y.skip (Y.g (Y.seq (Y.region (Y.fa rfl .g14 aP (Y.ld rfl bR .z .g1 (Y.mv rfl .g5 ?_))))))
 obtain⟨bo,al,am⟩:=ai (by omega)
 subst al
 obtain⟨x9,an⟩:=aK (xs:=f.inodes) (j:=Int.toNat ((cC f s).1)) (by omega)
 obtain⟨bf,ao,aa,ab⟩:=am.elem an
 obtain⟨a0,a1,rfl,ae,af⟩:=bY ao
 obtain⟨a2,a3,rfl,ap,aq,ar,au⟩:=aD ae
 obtain⟨a4,a5,rfl,av,aw,ax,ay⟩:=aD af
 have az:=cO (i:=((cC f s).1)) an (by omega)
 have bg:=cP (a:=((cC f s).1)) an (by omega)
 have bh:=dL (a:=((cC f s).1)) an (by omega)
 have bi:=mR (a:=((cC f s).1)) an (by omega)
 refine Y.ql rfl (aB (j:=Int.toNat ((cC f s).1)) rfl cQ aT (.t .g1) (.t .z) (by omega) (by omega)) ?_
 refine Y.as rfl .z (Y.nt (Y.seq (Y.seq (Y.region (Y.mv rfl .z (Y.nc rfl .z (Y.fa rfl .z bS ?_)))))))
 refine Y.le rfl bP .z aa ab (Y.ql rfl (bU rfl (.t .z) .c) (Y.nt ?_))
 refine Y.u (.t .z) (fun bm=> ?_) (fun bm=> ?_)
 refine Y.seq ?_
 refine Y.dr .z 11 fR ?_
 refine Y.sc (qs 0 11++ [(11,false)]) (by kernel_rfl) ?_
 refine Y.dm rfl rfl .z .g13 (Y.dm rfl rfl .z .g6 (Y.dn rfl rfl .z .z (Y.df rfl rfl .z .z bS (Y.de rfl rfl .z bP .z aa ab (Y.dm rfl rfl .z .g10 (Y.dn rfl rfl .z .z (Y.df rfl rfl .z .z bL (Y.de rfl rfl .z dX .z aa ab ?_))))))))
 refine Y.dk rfl rfl .z (bD rfl dP (.t .z)) (Y.dk rfl rfl .z (aW (cs:= [.int .i64 0,.int .i64 ((cC f s).1),.int .i64 x9.kind,.int .i64 1,.int .i64 (x9.ents.length:Int)]) rfl wA (pv4 (.t .g9) (.t .g5) .c (.t .z)) rfl) ?_)
 refine Y.es (aC rfl rfl) rfl (esW rfl (.t (.s16 (.s16 .g2))) (.t .z) .z kV rfl rfl) ?_
 refine Y.sl rfl ?_
 refine Y.w ?_
 refine Y.af (by kernel_rfl) ?_
 refine Y.g (Y.ret (Y.j ?_))
 refine Y.i (cU rfl (.s16 (.s16 .g2)) uI .z kV) .n ?_
 first |(rw [pS (by assumption)];exact⟨rfl,rfl⟩) |(rw [pP hF (by assumption)];exact⟨rfl,rfl⟩) |(rw [oL hF (by assumption),wG (by omega),az,bg];exact⟨rfl,rfl⟩) |(rw [oL hF (by assumption),wH (by omega),az,bh,bi];exact⟨rfl,rfl⟩)
 refine Y.skip (Y.g (Y.seq ?_))
 refine Y.dr .z 14 fR ?_
 refine Y.sc (qs 0 14++ [(14,false)]) (by kernel_rfl) ?_
 refine Y.dm rfl rfl .z .g13 (Y.dm rfl rfl .z .g6 (Y.dn rfl rfl .z .z (Y.df rfl rfl .z .z bS (Y.de rfl rfl .z bP .z aa ab (Y.dm rfl rfl .z .g10 (Y.dn rfl rfl .z .z (Y.df rfl rfl .z .z iZ (Y.de rfl rfl .z bP .z aa ab ?_))))))))
 refine Y.dm rfl rfl .z .g14 (Y.dn rfl rfl .z .z (Y.df rfl rfl .z .z gU (Y.de rfl rfl .z bP .z aa ab (Y.dk rfl rfl .z (aW (cs:= [.int .i64 0,.int .i64 ((cC f s).1),.int .i64 x9.kind,.int .i64 x9.links,.int .i64 x9.size]) rfl wA (pv4 (.t .g12) (.t .g8) (.t .g4) (.t .z)) rfl) ?_))))
 refine Y.es (aC rfl rfl) rfl (esW rfl (.t (.s16 (.s16 .g5))) (.t .z) .z kV rfl rfl) ?_
 refine Y.sl rfl ?_
 refine Y.w ?_
 refine Y.af (by kernel_rfl) ?_
 refine Y.g (Y.ret ?_)
 refine Y.i (cU rfl (.s16 (.s16 .g5)) uI .z kV) .n ?_
 first |(rw [pS (by assumption)];exact⟨rfl,rfl⟩) |(rw [pP hF (by assumption)];exact⟨rfl,rfl⟩) |(rw [oL hF (by assumption),wG (by omega),az,bg];exact⟨rfl,rfl⟩) |(rw [oL hF (by assumption),wH (by omega),az,bh,bi];exact⟨rfl,rfl⟩)

end Go.Proofs.YtmejbfmhaoilmaaGreatDoor
/- What is proved: contracts of functions, one a function. No condition. -/
namespace Go.Proofs.YtmejbfmhaoilmaaGreatDoor
open Go Go.RowKit
set_option linter.unusedVariables false
set_option linter.unusedSimpArgs false
set_option maxHeartbeats 1000000
set_option maxRecDepth 20000
theorem aOe {w0:World}{S0:Bs}:
    Calls Tryz.prog 51 #[] w0 (aI w0 S0 (aKa (⟨[⟨2,0,0,[],[]⟩],List.replicate 20 []⟩:DFs))):=by
 refine Y.enter (N:=5) Tryz.func51 rfl rfl (by simp) [] (by simp) (l0:= []) trivial ?_
 refine Y.seq (Y.region ?_)
 refine Y.el rfl (bB rfl rG rfl rfl) ?_
 rintro _ _ ⟨g1,rfl,rfl⟩
 refine Y.nt (Y.seq (Y.region (Y.ql rfl (aW (cs:= [.int .i64 2,.int .i64 0,.int .i64 0,.slice none 0 0,.slice none 0 0]) rfl sH (pv1 .c) rfl) ?_)))
 refine Y.el rfl (aQ (cs:= [.int .i64 2,.int .i64 0,.int .i64 0,.slice none 0 0,.slice none 0 0]) rfl cQ (inz mN) (by decide) (pv1 (.t .z)) rfl rfl (by decide) rfl rfl) ?_
 rintro _ _ ⟨g2,rfl,rfl⟩
 refine Y.el rfl (lJ (n:=20) (x0:=([]:(List UInt8))) rfl pH aC4 rfl (fun w S=>aL w S none) .c .c (by omega) (by omega)) ?_
 rintro _ _ rfl
 refine Y.h (WS.a .z) ?_
 rintro⟨aa,ab,rfl,ac,ad,ae⟩
 refine Y.ql rfl (aW (cs:= [.slice (some ⟨g2,0,none⟩) 1 1,.slice aa (List.replicate 20 ([]:(List UInt8))).length ab]) rfl aKj (pv2 (.t .g1) (.t .z)) rfl) ?_
 refine Y.es (aE rfl) rfl (esW rfl (.t .g4) (.t .z) .g2 bA rfl rfl) ?_
 refine Y.nt (Y.ret ?_)
 refine Y.add (c:=aH bK [] [.slice none 0 0]) (fun w S=>aL w S none) ?_
 refine Y.add (c:=aH dU [] [.slice none 0 0]) (fun w S=>aL w S none) ?_
 refine Y.ad (c:=aH cR (⟨2,0,0,[],[]⟩:aF) [.int .i64 2,.int .i64 0,.int .i64 0,.slice none 0 0,.slice none 0 0]) (.c .g1 (.c .z .n)) (fun w S h=>cZ (⟨2,0,0,[],[]⟩:aF) h) ?_
 refine Y.ad (c:=aH bJ [(⟨2,0,0,[],[]⟩:aF)] [.slice (some ⟨g2,0,none⟩) 1 1]) (.c .g3 (.c .z .n)) (aIg rfl rfl (by decide)) ?_
 refine Y.i (cU rfl .g4 bX .g1 bA) (.c .z (.c .g1 .n)) ?_
 exact⟨_,_,rfl,rfl⟩

theorem gP {w0:World}{S0:Bs}{f:DFs}{ai:List Value} (h0:dV.ro w0 (FF w0 S0) f ai) (c:Int):
    Calls Tryz.prog 101 #[.agg ai.toArray,.int .i64 c] w0 (aI w0 S0 (wB (⟨0,c,0,[],[],f⟩:dY))):=by
 obtain⟨aw,ax,rfl,aa,ab⟩:=bZ h0
 obtain⟨ac,ad,rfl,aj,ak,al,am⟩:=aD aa
 obtain⟨ae,af,rfl,an,ao,ap,aq⟩:=aD ab
 refine Y.enter (N:=9) Tryz.func101 rfl rfl (by simp) [(0,.agg #[.slice ac f.inodes.length ad,.slice ae f.data.length af]),(1,.int .i64 c)] (by simp) (l0:= []) trivial ?_
 refine Y.seq (Y.region ?_)
 refine Y.el rfl (fQ (cs:= [.slice ac f.inodes.length ad,.slice ae f.data.length af]) (n:=2) rfl (.t .z) rfl rfl) ?_
 rintro _ _ ⟨g3,rfl,rfl⟩
 refine Y.el rfl (bB rfl aAv rfl rfl) ?_
 rintro _ _ ⟨g4,rfl,rfl⟩
 refine Y.nt (Y.seq (Y.region (Y.mv rfl .g3 (Y.ql rfl (qW rfl bX (.t .g2) .g1 bA) ?_))))
 refine Y.cl rfl rfl Tryz.func104 rfl rfl (bG (.t .z)) .n (fun _ _ hs tr=>qC (aJ f (tr.ctx aa) (tr.ctx ab))) ?_
 rintro _ _ ⟨v5,v7,rfl,rfl⟩
 refine Y.m (.c (.c .n)) ?_
 refine Y.h (WS.a .z) ?_
 rintro⟨ay,az,rfl,a0,a1,a2⟩
 refine Y.h (WS.a .g1) ?_
 rintro⟨ag,ah,rfl,ar,au,av⟩
 refine Y.ql rfl (aW (cs:= [.int .i64 0,.int .i64 c,.int .i64 0,.slice none 0 0,.slice none 0 0,.slice ay f.inodes.length az,.slice ag f.data.length ah]) rfl pB (pv2 (.t .g2) (.t .z)) rfl) ?_
 refine Y.es (aE rfl) rfl (esW rfl (.t .g4) (.t .z) .g2 cA rfl rfl) ?_
 refine Y.nt (Y.ret ?_)
 refine Y.add (c:=aH dD [] [.slice none 0 0]) (fun w S=>aL w S none) ?_
 refine Y.add (c:=aH cT [] [.slice none 0 0]) (fun w S=>aL w S none) ?_
 refine Y.i (cU rfl .g4 eK .g2 cA) (.c .g1 (.c .z (.c .g1 (.c .g1 .n)))) ?_
 exact⟨_,_,_,_,rfl,rfl⟩

end Go.Proofs.YtmejbfmhaoilmaaGreatDoor

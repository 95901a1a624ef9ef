/- What is proved: contracts of functions, one a function. No condition. -/
import Derived.Test.YtmejbfmhaoilmaaGreatBase1
import Derived.Test.YtmejbfmhaoilmaaGreatW60
namespace Go.Proofs.YtmejbfmhaoilmaaGreat
open Go Go.RowKit
set_option linter.unusedVariables false
set_option linter.unusedSimpArgs false
set_option maxHeartbeats 1000000
set_option maxRecDepth 20000
theorem aMb {w0:World}{S0:Bs} (s:ByteArray) (an:s.size≤140737488351232) (c:Int) (hc:c=47) (hs:s.size≤30):
    Calls Tryz.prog 205 #[.string s,.int .u8 c] w0 (aI w0 S0 (fun r l=>l= [aG fJ (vB s) [r]])):=by
 refine Y.enter (N:=36) Tryz.func205 rfl rfl (by simp) [(0,.string s),(1,.int .u8 c)] (by simp) (l0:= []) trivial ?_
 refine Y.seq (Y.region (Y.ql rfl (aA rfl .c) (Y.nt (Y.seq (Y.region ?_)))))
 refine Y.el rfl (dW rfl jJ (inz mX)) ?_
 rintro _ _ ⟨g1,rfl,rfl⟩
 refine Y.as rfl .z (Y.nt (Y.seq (Y.region (Y.ql rfl (aA rfl .c) (Y.nt (Y.seq ?_))))))
 refine Y.seq (Y.region (Y.ql rfl (aA rfl .c) (Y.nt (Y.block ?_))))
 refine Y.add (c:=aG fJ ([]:(List ByteArray)) [.slice (some ⟨g1,0,none⟩) 0 0]) (fun w S=>aK w S _) ?_
 refine Y.ah (γ:=Nat×(Option Addr)×Nat×Nat×(List ByteArray)) (fun⟨k,aa,ab,m,o⟩=> [(7,.int .i64 (k:Int)),(6,.int .i64 (m:Int)),(5,.slice aa o.length ab),(4,.slice none 0 0),(0,.string s),(1,.int .u8 c)]) (fun⟨k,aa,ab,m,o⟩=> [aG fJ o [.slice aa o.length ab],bZ g1 9 1 0 []]) (fun⟨k,aa,ab,m,o⟩=>k≤s.size+1∧(k≤s.size→CI s.data.toList m k o)∧(s.size<k→o=vB s)∧m≤k∧o.length≤k) (fun⟨k,aa,ab,m,o⟩=>s.size+1 - k) (0,(some ⟨g1,0,none⟩),0,0,[]) ⟨Nat.zero_le _,fun _=>aM1,fun h=>absurd h (Nat.not_lt_zero _),Nat.le_refl _,Nat.le_refl _⟩ (.c .z (.c .g1 (.c .g2 (.c .g4 (.c .g5 (.c .g6 .n)))))) (fun _ h=>h.sel (.c .z (.c .z .n))) ?_
 rintro⟨k,aa,ab,m,o⟩ ⟨hk,hI,hE,hmk,hol⟩
 refine Y.seq (Y.seq (Y.region (Y.mv rfl .z (Y.mv rfl .g5 (Y.ql rfl (nG rfl u_9 (.t .z)) (Y.ql rfl (aAu rfl (.t .g2) (.t .z)) (Y.nt ?_)))))))
 refine Y.u (.t .z) (fun b3=> ?_) (fun b3=> ?_)
 refine Y.skip (Y.g (Y.seq (Y.block (Y.seq (Y.region (Y.mv rfl .g4 (Y.mv rfl .g9 (Y.ql rfl (nG rfl u_9 (.t .z)) ?_))))))))
 refine Y.ql rfl (bP rfl (.t .g2) (.t .z)) (Y.mv rfl .z ?_)
 refine Y.ak .z (fun g4=> ?_) (fun g4=> ?_)
 refine Y.h rfl rfl .z rfl rfl (by decide) rfl ?_
 refine Y.h rfl rfl .g1 rfl rfl (by decide) rfl ?_
 refine Y.h rfl rfl .g2 rfl rfl (by decide) rfl ?_
 refine Y.h rfl rfl .g3 rfl rfl (by decide) rfl ?_
 refine Y.h rfl rfl .g4 rfl rfl (by decide) rfl ?_
 refine Y.ql rfl (bB rfl (.t .g5) .c) (Y.nt ?_)
 refine Y.ap (.t .z) ?_
 refine Y.seq (Y.region (Y.mv rfl (.s16 .g1) (Y.mv rfl (.s16 .g4) (Y.mv rfl (.s16 .g2) (Y.mv rfl (.s16 .g2) ?_)))))
 refine Y.ql rfl (tZ (a:=m) (b:=k) rfl u_9 (.t .g2) (.inr ⟨_,_,rfl,(.t .g1)⟩) (.inr ⟨_,_,rfl,(.t .z)⟩) (by omega) (by omega)) ?_
 refine Y.el rfl (aO (cs:= [.string (ByteArray.extract s m k)]) rfl jJ (inz mX) (by decide) (pv1 (.t .z)) rfl rfl (by decide) rfl rfl) ?_
 rintro _ _ ⟨g5,rfl,rfl⟩
 refine Y.add (c:=aG uZ (ByteArray.extract s m k) [.string (ByteArray.extract s m k)]) (fun _ _=>⟨rfl,by first | assumption | exact aBe (by assumption)⟩) ?_
 refine Y.el rfl (dC rfl jJ mX rfl (.t .g5) (.t .z) (.c .g2 (.c .g1 (.c .z .n))) (by first | omega |(simp only [List.length_append,List.length_take,List.length_nil,List.length_cons];omega)) (by first | omega |(simp only [List.length_append,List.length_take,List.length_nil,List.length_cons];omega))) ?_
 rintro _ _ rfl
 refine Y.i (WS.a .z) ?_
 rintro⟨ai,aj,rfl,ak,al,am⟩
 refine Y.er (.s16 .g8) (Y.as rfl .z (Y.nt (Y.region (Y.mv rfl (.s16 .g7) ?_))))
 refine Y.ql rfl (bG (c:=((k+1:Nat):Int)) rfl (.t .z) .c (wr (by omega) (by omega) (by omega))) ?_
 refine Y.er (.s16 .g10) (Y.as rfl .z (Y.nil (Y.y (Y.g (Y.region (Y.mv rfl (.s16 .g10) ?_))))))
 refine Y.ql rfl (bG (c:=((k+1:Nat):Int)) rfl (.t .z) .c (wr (by omega) (by omega) (by omega))) ?_
 refine Y.er (.s16 .g12) (Y.as rfl .z (Y.nil ?_))
 refine Y.ae ((k+1),ai,aj,k+1,o++ [ByteArray.extract s m k]) ⟨by omega,(by first | exact⟨fun h=>absurd h (by omega),fun _=>aCb (hI (by omega)) (by omega),by omega,by simp only [List.length_append,List.length_cons,List.length_nil];omega⟩)⟩ (by first | omega |(dsimp only;omega)) (.c .z (.c .g3 (.c .g6 (.c (.s16 .g13) (.c (.s16 .g14) (.c (.s16 .g15) .n)))))) (fun _ h=>h.sel (.c .z (.c .z .n)))
 refine Y.qg rfl rfl .z rfl rfl rfl (aS rfl (.t .g13)) ?_
 refine Y.qg rfl rfl .g1 rfl rfl rfl (aS rfl (.t .g10)) ?_
 obtain⟨b8,ac⟩:=aJ (xs:=s.data.toList) (j:=k) (by have:=mT s;omega)
 refine Y.qg rfl rfl .g2 rfl rfl rfl (mN rfl u_9 (.t .g1) (.t .z) rfl ac) ?_
 refine Y.qg rfl rfl .g3 rfl rfl rfl (aS rfl (.t (.s16 .g1))) ?_
 refine Y.qg rfl rfl .g4 rfl rfl rfl (bP rfl (.t .g1) (.t .z)) ?_
 refine Y.ql rfl (aV rfl (.t .g5) (.t .z)) (Y.nt ?_)
 refine Y.u (.t .z) (fun b9=> ?_) (fun b9=> ?_)
 refine Y.seq (Y.region (Y.mv rfl (.s16 .g1) (Y.mv rfl (.s16 .g4) (Y.mv rfl (.s16 .g2) (Y.mv rfl (.s16 .g2) ?_)))))
 refine Y.ql rfl (tZ (a:=m) (b:=k) rfl u_9 (.t .g2) (.inr ⟨_,_,rfl,(.t .g1)⟩) (.inr ⟨_,_,rfl,(.t .z)⟩) (by omega) (by omega)) ?_
 refine Y.el rfl (aO (cs:= [.string (ByteArray.extract s m k)]) rfl jJ (inz mX) (by decide) (pv1 (.t .z)) rfl rfl (by decide) rfl rfl) ?_
 rintro _ _ ⟨g10,rfl,rfl⟩
 refine Y.add (c:=aG uZ (ByteArray.extract s m k) [.string (ByteArray.extract s m k)]) (fun _ _=>⟨rfl,by first | assumption | exact aBe (by assumption)⟩) ?_
 refine Y.el rfl (dC rfl jJ mX rfl (.t .g5) (.t .z) (.c .g2 (.c .g1 (.c .z .n))) (by first | omega |(simp only [List.length_append,List.length_take,List.length_nil,List.length_cons];omega)) (by first | omega |(simp only [List.length_append,List.length_take,List.length_nil,List.length_cons];omega))) ?_
 rintro _ _ rfl
 refine Y.i (WS.a .z) ?_
 rintro⟨ad,ae,rfl,af,ag,ah⟩
 refine Y.er (.s16 .g8) (Y.as rfl .z (Y.nt (Y.region (Y.mv rfl (.s16 .g7) ?_))))
 refine Y.ql rfl (bG (c:=((k+1:Nat):Int)) rfl (.t .z) .c (wr (by omega) (by omega) (by omega))) ?_
 refine Y.er (.s16 .g10) (Y.as rfl .z (Y.nil (Y.y (Y.g (Y.region (Y.mv rfl (.s16 .g10) ?_))))))
 refine Y.ql rfl (bG (c:=((k+1:Nat):Int)) rfl (.t .z) .c (wr (by omega) (by omega) (by omega))) ?_
 refine Y.er (.s16 .g12) (Y.as rfl .z (Y.nil ?_))
 refine Y.ae ((k+1),ad,ae,k+1,o++ [ByteArray.extract s m k]) ⟨by omega,(by first | exact⟨fun h=>absurd h (by omega),fun _=>aCb (hI (by omega)) (by omega),by omega,by simp only [List.length_append,List.length_cons,List.length_nil];omega⟩ | exact⟨fun _=>aLm (hI (by omega)) ac (oQ.1 (by omega)),fun h=>absurd h (by omega),by omega,by simp only [List.length_append,List.length_cons,List.length_nil];omega⟩ | exact⟨fun _=>aMo (hI (by omega)) ac (fun e=>absurd (oQ.2 e) (by omega)),fun h=>absurd h (by omega),by omega,by omega⟩)⟩ (by first | omega |(dsimp only;omega)) (.c .z (.c .g3 (.c .g6 (.c (.s16 .g13) (.c (.s16 .g14) (.c (.s16 .g15) .n)))))) (fun _ h=>h.sel (.c .z (.c .z .n)))
 refine Y.skip (Y.y (Y.g (Y.region (Y.mv rfl .g15 ?_))))
 refine Y.ql rfl (bG (c:=((k+1:Nat):Int)) rfl (.t .z) .c (wr (by omega) (by omega) (by omega))) ?_
 refine Y.er (.s16 .g1) (Y.as rfl .z (Y.nil ?_))
 refine Y.ae ((k+1),aa,ab,m,o) ⟨by omega,(by first | exact⟨fun h=>absurd h (by omega),fun _=>aCb (hI (by omega)) (by omega),by omega,by simp only [List.length_append,List.length_cons,List.length_nil];omega⟩ | exact⟨fun _=>aLm (hI (by omega)) ac (oQ.1 (by omega)),fun h=>absurd h (by omega),by omega,by simp only [List.length_append,List.length_cons,List.length_nil];omega⟩ | exact⟨fun _=>aMo (hI (by omega)) ac (fun e=>absurd (oQ.2 e) (by omega)),fun h=>absurd h (by omega),by omega,by omega⟩)⟩ (by first | omega |(dsimp only;omega)) (.c .z (.c (.s16 .g2) (.c (.s16 .g3) (.c (.s16 .g4) (.c (.s16 .g5) (.c (.s16 .g6) .n)))))) (fun _ h=>h.sel (.c .z (.c .z .n)))
 refine Y.exit (Y.w (Y.w (Y.ag (Y.g (Y.seq (Y.region (Y.mv rfl .g6 (Y.er .g8 ?_))))))))
 refine Y.as rfl .z (Y.nt (Y.ret ?_))
 refine Y.j (aT rfl .z) (.c .z .n) ?_
 rw [←hE (by omega)]

theorem aFv {w0:World}{S0:Bs} (s:ByteArray) (aj:s.size≤140737488351232):
    Calls Tryz.prog 196 #[.string s] w0 (aI w0 S0 (fun r l=>∃v:Value,r= .tuple #[v,.int .i64 (fL s)]∧l= [aG fJ (dR s) [v]])):=by
 refine Y.enter (N:=37) Tryz.func196 rfl rfl (by simp) [(0,.string s)] (by simp) (l0:= []) trivial ?_
 refine Y.seq (Y.region (Y.ql rfl (aA rfl .c) (Y.ql rfl (aA rfl .c) (Y.nt (Y.seq (Y.seq (Y.region ?_)))))))
 refine Y.mv rfl .g2 (Y.ql rfl (nG rfl u_9 (.t .z)) (Y.ql rfl (gA rfl (.t .z) .c) (Y.nt ?_)))
 refine Y.u (.t .z) (fun b1=> ?_) (fun b1=> ?_)
 refine Y.seq (Y.region (Y.er .g4 (Y.ql rfl (aA rfl .c) (Y.er .g4 (Y.ql rfl (aA rfl .c) (Y.nt (Y.ret ?_)))))))
 refine Y.m ?_
 refine Y.add (c:=aG fJ [] [.slice none 0 0]) (fun w S=>aK w S none) ?_
 refine Y.j (oE rfl .g1 .z) (.c .z .n) ?_
 have hh:=aH7 (s:=s) (by omega);rw [hh.1,hh.2];exact⟨_,rfl,rfl⟩
 refine Y.skip (Y.g (Y.seq (Y.seq (Y.region (Y.mv rfl .g5 (Y.ql rfl (tV rfl (.t .z) .c) (Y.nt ?_)))))))
 refine Y.u (.t .z) (fun b3=> ?_) (fun b3=> ?_)
 refine Y.seq (Y.region ?_)
 refine Y.el rfl (dW rfl jJ (inz mX)) ?_
 rintro _ _ ⟨g4,rfl,rfl⟩
 refine Y.er .g7 (Y.as rfl .z (Y.er .g7 (Y.ql rfl (aA rfl .c) (Y.nt (Y.ret (Y.m ?_))))))
 refine Y.add (c:=aG fJ ([]:(List ByteArray)) [.slice (some ⟨g4,0,none⟩) 0 0]) (fun w S=>aK w S _) ?_
 refine Y.j (oE rfl .g1 .z) (.c .z .n) ?_
 have hh:=aHw (s:=s) (by omega) (by assumption);rw [hh.1,hh.2];exact⟨_,rfl,rfl⟩
 refine Y.skip (Y.g (Y.seq (Y.seq (Y.region (Y.mv rfl .g7 (Y.ql rfl (nG rfl u_9 (.t .z)) (Y.ql rfl (bP rfl (.t .z) .c) (Y.mv rfl .z ?_))))))))
 refine Y.ak .z (fun g6=> ?_) (fun g6=> ?_)
 refine Y.h rfl rfl .z rfl rfl (by decide) rfl ?_
 refine Y.h rfl rfl .g1 rfl rfl (by decide) rfl ?_
 refine Y.h rfl rfl .g2 rfl rfl (by decide) rfl ?_
 refine Y.ql rfl (bB rfl (.t .g3) .c) (Y.mv rfl .z ?_)
 refine Y.h rfl rfl .z rfl rfl (by decide) rfl ?_
 refine Y.h rfl rfl .g1 rfl rfl (by decide) rfl ?_
 refine Y.h rfl rfl .g2 rfl rfl (by decide) rfl ?_
 refine Y.h rfl rfl .g3 rfl rfl (by decide) rfl ?_
 refine Y.h rfl rfl .g4 rfl rfl (by decide) rfl ?_
 refine Y.h rfl rfl .g5 rfl rfl (by decide) rfl ?_
 refine Y.ql rfl (bB rfl (.t .g6) .c) (Y.nt ?_)
 refine Y.ap (.t .z) ?_
 refine Y.seq (Y.region (Y.er (.s16 .g6) (Y.ql rfl (aA rfl .c) (Y.er (.s16 .g6) (Y.ql rfl (aA rfl .c) (Y.nt (Y.ret ?_)))))))
 refine Y.m ?_
 refine Y.add (c:=aG fJ [] [.slice none 0 0]) (fun w S=>aK w S none) ?_
 refine Y.j (oE rfl .g1 .z) (.c .z .n) ?_
 have hh:=zA (s:=s) (by omega) (by assumption) (by first | exact aFi (by omega) | exact .inl (by assumption) | exact .inr (by assumption));rw [hh.1,hh.2];exact⟨_,rfl,rfl⟩
 refine Y.qg rfl rfl .z rfl rfl rfl (aS rfl (.t .g11)) ?_
 obtain⟨b8,ab⟩:=aJ (xs:=s.data.toList) (j:=0) (by have:=mT s;omega)
 refine Y.qg rfl rfl .g1 rfl rfl rfl (mN rfl u_9 (.t .z) .c rfl ab) ?_
 refine Y.qg rfl rfl .g2 rfl rfl rfl (cC rfl (.t .z) .c) ?_
 refine Y.ql rfl (aV rfl (.t .g3) (.t .z)) (Y.mv rfl .z ?_)
 refine Y.ao .z (fun g9=> ?_) (fun g9=> ?_)
 refine Y.h rfl rfl .z rfl rfl (by decide) rfl ?_
 refine Y.h rfl rfl .g1 rfl rfl (by decide) rfl ?_
 refine Y.h rfl rfl .g2 rfl rfl (by decide) rfl ?_
 refine Y.h rfl rfl .g3 rfl rfl (by decide) rfl ?_
 refine Y.h rfl rfl .g4 rfl rfl (by decide) rfl ?_
 refine Y.h rfl rfl .g5 rfl rfl (by decide) rfl ?_
 refine Y.ql rfl (bB rfl (.t .g6) .c) (Y.nt ?_)
 refine Y.ap (.t .z) ?_
 refine Y.seq (Y.region (Y.er (.s16 .g6) (Y.ql rfl (aA rfl .c) (Y.er (.s16 .g6) (Y.ql rfl (aA rfl .c) (Y.nt (Y.ret ?_)))))))
 refine Y.m ?_
 refine Y.add (c:=aG fJ [] [.slice none 0 0]) (fun w S=>aK w S none) ?_
 refine Y.j (oE rfl .g1 .z) (.c .z .n) ?_
 have hh:=zA (s:=s) (by omega) (by assumption) (by first | exact aFi (by omega) | exact .inl (by assumption) | exact .inr (by assumption) | exact aIw ab (by omega));rw [hh.1,hh.2];exact⟨_,rfl,rfl⟩
 refine Y.qg rfl rfl .z rfl rfl rfl (aS rfl (.t .g16)) ?_
 refine Y.qg rfl rfl .g1 rfl rfl rfl (aS rfl (.t (.s16 .g1))) ?_
 refine Y.qg rfl rfl .g2 rfl rfl rfl (nG rfl u_9 (.t .z)) ?_
 refine Y.qg rfl rfl .g3 rfl rfl rfl (jO (c:=(s.size:Int) - 1) rfl (.t .z) .c (wr (by omega) (by omega) (by omega))) ?_
 obtain⟨ak,aa⟩:=aJ (xs:=s.data.toList) (j:=Int.toNat ((s.size:Int) - 1)) (by have:=mT s;omega)
 refine Y.qg rfl rfl .g4 rfl rfl rfl (mN rfl u_9 (.t .g3) (.t .z) (by omega) aa) ?_
 refine Y.qg rfl rfl .g5 rfl rfl rfl (bP rfl (.t .z) .c) ?_
 refine Y.ql rfl (aV rfl (.t .g6) (.t .z)) (Y.nt ?_)
 refine Y.u (.t .z) (fun af=> ?_) (fun af=> ?_)
 refine Y.seq (Y.region (Y.er (.s16 .g6) (Y.ql rfl (aA rfl .c) (Y.er (.s16 .g6) (Y.ql rfl (aA rfl .c) (Y.nt (Y.ret ?_)))))))
 refine Y.m ?_
 refine Y.add (c:=aG fJ [] [.slice none 0 0]) (fun w S=>aK w S none) ?_
 refine Y.j (oE rfl .g1 .z) (.c .z .n) ?_
 have hh:=zA (s:=s) (by omega) (by assumption) (by first | exact aFi (by omega) | exact .inl (by assumption) | exact .inr (by assumption) | exact aIw ab (by omega) | exact aKd aa (by omega) (by omega));rw [hh.1,hh.2];exact⟨_,rfl,rfl⟩
 refine Y.skip (Y.g (Y.seq (Y.region (Y.mv rfl (.s16 .g7) ?_))))
 refine Y.ql rfl (tZ (a:=1) (b:=s.size) rfl u_9 (.t .z) (.inr ⟨_,_,rfl,.c⟩) (.inl ⟨rfl,rfl⟩) (by omega) (by omega)) ?_
 refine Y.cl rfl rfl Tryz.func205 rfl rfl (aR (.t .z) .c) .n (fun _ _ hs tr=>aMb _ (by rw [ByteArray.size_extract];omega) _ (by first | rfl | decide) (by first | omega |(rw [ByteArray.size_extract];omega))) ?_
 rintro _ _ rfl
 refine Y.r (.c .n) ?_
 refine Y.i (WS.a .z) ?_
 rintro⟨ag,ah,rfl,ac,ad,ae⟩
 refine Y.as rfl .z (Y.nt (Y.seq (Y.seq (Y.region (Y.mv rfl .z ?_)))))
 refine Y.cl rfl rfl Tryz.func206 rfl rfl (bH (.t .z)) .n (fun _ _ hs tr=>aL3 (tr.own .z)) ?_
 rintro _ _ ⟨rfl,rfl⟩
 refine Y.r .n ?_
 refine Y.as rfl .z (Y.nt (Y.seq (Y.region (Y.mv rfl .z (Y.ql rfl (cC rfl (.t .z) .c) (Y.nt ?_))))))
 refine Y.ad (.t .z) (fun ai=> ?_) (fun ai=> ?_)
 refine Y.seq (Y.region (Y.mv rfl .g2 (Y.er (.s16 .g16) (Y.ql rfl (aA rfl .c) (Y.er (.s16 .g16) (Y.as rfl .g1 (Y.nt ?_)))))))
 refine Y.ret (Y.m ?_)
 refine Y.add (c:=aG fJ [] [.slice none 0 0]) (fun w S=>aK w S none) ?_
 refine Y.j (oE rfl .g1 .z) (.c .z .n) ?_
 have hh:=aIg (s:=s) (by omega) (by assumption) (by first | exact aIz (by assumption) (by assumption) | exact aK7 ab (by omega) aa (by omega) (by omega)) (by assumption);rw [hh.1,hh.2];exact⟨_,rfl,rfl⟩
 refine Y.skip (Y.g (Y.seq (Y.region (Y.mv rfl .g5 (Y.er (.s16 .g16) (Y.as rfl .z (Y.er (.s16 .g16) (Y.ql rfl (aA rfl .c) ?_))))))))
 refine Y.nt (Y.ret ?_)
 refine Y.j (oE rfl .g1 .z) (.c .z .n) ?_
 have hh:=aIi (s:=s) (by omega) (by assumption) (by first | exact aIz (by assumption) (by assumption) | exact aK7 ab (by omega) aa (by omega) (by omega)) (by first | assumption | omega);rw [hh.1,hh.2];exact⟨_,rfl,rfl⟩

end Go.Proofs.YtmejbfmhaoilmaaGreat

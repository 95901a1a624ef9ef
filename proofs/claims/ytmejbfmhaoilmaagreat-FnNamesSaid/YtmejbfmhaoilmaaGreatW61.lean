/- What is proved: contracts of functions, one a function. No condition. -/
import Derived.Test.YtmejbfmhaoilmaaGreatBase1
import Derived.Test.YtmejbfmhaoilmaaGreatW60
import Derived.Test.YtmejbfmhaoilmaaGreatBase2
namespace Go.Proofs.YtmejbfmhaoilmaaGreat
open Go Go.RowKit
set_option linter.unusedVariables false
set_option linter.unusedSimpArgs false
set_option maxHeartbeats 1000000
set_option maxRecDepth 20000
theorem aLd {w0:World}{S0:Bs} (s:ByteArray) (an:s.size≤140737488351232) (c:Int) (hc:c=47) (hs:s.size≤30):
    Calls Tryz.prog 205 #[.string s,.int .u8 c] w0 (aJ w0 S0 (fun r l=>l= [aG fB (wD s) [r]])):=by
 refine Y.enter (N:=36) Tryz.func205 rfl rfl (by simp) [(0,.string s),(1,.int .u8 c)] (by simp) (l0:= []) trivial ?_
 refine Y.seq (Y.region (Y.ql rfl (aA rfl .c) (Y.nt (Y.seq (Y.region ?_)))))
 refine Y.el rfl (eH rfl hZ (inz lQ)) ?_
 rintro _ _ ⟨g1,rfl,rfl⟩
 refine Y.as rfl .z (Y.nt (Y.seq (Y.region (Y.ql rfl (aA rfl .c) (Y.nt (Y.seq ?_))))))
 refine Y.seq (Y.region (Y.ql rfl (aA rfl .c) (Y.nt (Y.block ?_))))
 refine Y.add (c:=aG fB ([]:(List ByteArray)) [.slice (some ⟨g1,0,none⟩) 0 0]) (fun w S=>aN w S _) ?_
 refine Y.aj (γ:=Nat×(Option Addr)×Nat×Nat×(List ByteArray)) (fun⟨k,aa,ab,m,o⟩=> [(7,.int .i64 (k:Int)),(6,.int .i64 (m:Int)),(5,.slice aa o.length ab),(4,.slice none 0 0),(0,.string s),(1,.int .u8 c)]) (fun⟨k,aa,ab,m,o⟩=> [aG fB o [.slice aa o.length ab],cM g1 9 1 0 []]) (fun⟨k,aa,ab,m,o⟩=>k≤s.size+1∧(k≤s.size→CI s.data.toList m k o)∧(s.size<k→o=wD s)∧m≤k∧o.length≤k) (fun⟨k,aa,ab,m,o⟩=>s.size+1 - k) (0,(some ⟨g1,0,none⟩),0,0,[]) ⟨Nat.zero_le _,fun _=>aOk,fun h=>absurd h (Nat.not_lt_zero _),Nat.le_refl _,Nat.le_refl _⟩ (.c .z (.c .g1 (.c .g2 (.c .g4 (.c .g5 (.c .g6 .n)))))) (fun _ h=>h.sel (.c .z (.c .z .n))) ?_
 rintro⟨k,aa,ab,m,o⟩ ⟨hk,hI,hE,hmk,hol⟩
 refine Y.seq (Y.seq (Y.region (Y.mv rfl .z (Y.mv rfl .g5 (Y.ql rfl (nO rfl u_9 (.t .z)) (Y.ql rfl (aCf rfl (.t .g2) (.t .z)) (Y.nt ?_)))))))
 refine Y.u (.t .z) (fun b3=> ?_) (fun b3=> ?_)
 refine Y.skip (Y.g (Y.seq (Y.block (Y.seq (Y.region (Y.mv rfl .g4 (Y.mv rfl .g9 (Y.ql rfl (nO rfl u_9 (.t .z)) ?_))))))))
 refine Y.ql rfl (bZ rfl (.t .g2) (.t .z)) (Y.mv rfl .z ?_)
 refine Y.al .z (fun g4=> ?_) (fun g4=> ?_)
 refine Y.j rfl rfl .z rfl rfl (by decide) rfl ?_
 refine Y.j rfl rfl .g1 rfl rfl (by decide) rfl ?_
 refine Y.j rfl rfl .g2 rfl rfl (by decide) rfl ?_
 refine Y.j rfl rfl .g3 rfl rfl (by decide) rfl ?_
 refine Y.j rfl rfl .g4 rfl rfl (by decide) rfl ?_
 refine Y.ql rfl (bO rfl (.t .g5) .c) (Y.nt ?_)
 refine Y.ao (.t .z) ?_
 refine Y.seq (Y.region (Y.mv rfl (.s16 .g1) (Y.mv rfl (.s16 .g4) (Y.mv rfl (.s16 .g2) (Y.mv rfl (.s16 .g2) ?_)))))
 refine Y.ql rfl (vE (a:=m) (b:=k) rfl u_9 (.t .g2) (.inr ⟨_,_,rfl,(.t .g1)⟩) (.inr ⟨_,_,rfl,(.t .z)⟩) (by omega) (by omega)) ?_
 refine Y.el rfl (aS (cs:= [.string (ByteArray.extract s m k)]) rfl hZ (inz lQ) (by decide) (pv1 (.t .z)) rfl rfl (by decide) rfl rfl) ?_
 rintro _ _ ⟨g5,rfl,rfl⟩
 refine Y.add (c:=aG uM (ByteArray.extract s m k) [.string (ByteArray.extract s m k)]) (fun _ _=>⟨rfl,by first | assumption | exact aCg (by assumption)⟩) ?_
 refine Y.el rfl (dU rfl hZ lQ rfl (.t .g5) (.t .z) (.c .g2 (.c .g1 (.c .z .n))) (by first | omega |(simp only [List.length_append,List.length_take,List.length_nil,List.length_cons];omega)) (by first | omega |(simp only [List.length_append,List.length_take,List.length_nil,List.length_cons];omega))) ?_
 rintro _ _ rfl
 refine Y.h (WS.a .z) ?_
 rintro⟨ai,aj,rfl,ak,al,am⟩
 refine Y.er (.s16 .g8) (Y.as rfl .z (Y.nt (Y.region (Y.mv rfl (.s16 .g7) ?_))))
 refine Y.ql rfl (bQ (c:=((k+1:Nat):Int)) rfl (.t .z) .c (wr (by omega) (by omega) (by omega))) ?_
 refine Y.er (.s16 .g10) (Y.as rfl .z (Y.nil (Y.ac (Y.g (Y.region (Y.mv rfl (.s16 .g10) ?_))))))
 refine Y.ql rfl (bQ (c:=((k+1:Nat):Int)) rfl (.t .z) .c (wr (by omega) (by omega) (by omega))) ?_
 refine Y.er (.s16 .g12) (Y.as rfl .z (Y.nil ?_))
 refine Y.ae ((k+1),ai,aj,k+1,o++ [ByteArray.extract s m k]) ⟨by omega,(by first | exact⟨fun h=>absurd h (by omega),fun _=>aDa (hI (by omega)) (by omega),by omega,by simp only [List.length_append,List.length_cons,List.length_nil];omega⟩)⟩ (by first | omega |(dsimp only;omega)) (.c .z (.c .g3 (.c .g6 (.c (.s16 .g13) (.c (.s16 .g14) (.c (.s16 .g15) .n)))))) (fun _ h=>h.sel (.c .z (.c .z .n)))
 refine Y.qg rfl rfl .z rfl rfl rfl (aV rfl (.t .g13)) ?_
 refine Y.qg rfl rfl .g1 rfl rfl rfl (aV rfl (.t .g10)) ?_
 obtain⟨b8,ac⟩:=aI (xs:=s.data.toList) (j:=k) (by have:=mV s;omega)
 refine Y.qg rfl rfl .g2 rfl rfl rfl (mS rfl u_9 (.t .g1) (.t .z) rfl ac) ?_
 refine Y.qg rfl rfl .g3 rfl rfl rfl (aV rfl (.t (.s16 .g1))) ?_
 refine Y.qg rfl rfl .g4 rfl rfl rfl (bZ rfl (.t .g1) (.t .z)) ?_
 refine Y.ql rfl (bW rfl (.t .g5) (.t .z)) (Y.nt ?_)
 refine Y.u (.t .z) (fun b9=> ?_) (fun b9=> ?_)
 refine Y.seq (Y.region (Y.mv rfl (.s16 .g1) (Y.mv rfl (.s16 .g4) (Y.mv rfl (.s16 .g2) (Y.mv rfl (.s16 .g2) ?_)))))
 refine Y.ql rfl (vE (a:=m) (b:=k) rfl u_9 (.t .g2) (.inr ⟨_,_,rfl,(.t .g1)⟩) (.inr ⟨_,_,rfl,(.t .z)⟩) (by omega) (by omega)) ?_
 refine Y.el rfl (aS (cs:= [.string (ByteArray.extract s m k)]) rfl hZ (inz lQ) (by decide) (pv1 (.t .z)) rfl rfl (by decide) rfl rfl) ?_
 rintro _ _ ⟨g10,rfl,rfl⟩
 refine Y.add (c:=aG uM (ByteArray.extract s m k) [.string (ByteArray.extract s m k)]) (fun _ _=>⟨rfl,by first | assumption | exact aCg (by assumption)⟩) ?_
 refine Y.el rfl (dU rfl hZ lQ rfl (.t .g5) (.t .z) (.c .g2 (.c .g1 (.c .z .n))) (by first | omega |(simp only [List.length_append,List.length_take,List.length_nil,List.length_cons];omega)) (by first | omega |(simp only [List.length_append,List.length_take,List.length_nil,List.length_cons];omega))) ?_
 rintro _ _ rfl
 refine Y.h (WS.a .z) ?_
 rintro⟨ad,ae,rfl,af,ag,ah⟩
 refine Y.er (.s16 .g8) (Y.as rfl .z (Y.nt (Y.region (Y.mv rfl (.s16 .g7) ?_))))
 refine Y.ql rfl (bQ (c:=((k+1:Nat):Int)) rfl (.t .z) .c (wr (by omega) (by omega) (by omega))) ?_
 refine Y.er (.s16 .g10) (Y.as rfl .z (Y.nil (Y.ac (Y.g (Y.region (Y.mv rfl (.s16 .g10) ?_))))))
 refine Y.ql rfl (bQ (c:=((k+1:Nat):Int)) rfl (.t .z) .c (wr (by omega) (by omega) (by omega))) ?_
 refine Y.er (.s16 .g12) (Y.as rfl .z (Y.nil ?_))
 refine Y.ae ((k+1),ad,ae,k+1,o++ [ByteArray.extract s m k]) ⟨by omega,(by first | exact⟨fun h=>absurd h (by omega),fun _=>aDa (hI (by omega)) (by omega),by omega,by simp only [List.length_append,List.length_cons,List.length_nil];omega⟩ | exact⟨fun _=>aL8 (hI (by omega)) ac (oL.1 (by omega)),fun h=>absurd h (by omega),by omega,by simp only [List.length_append,List.length_cons,List.length_nil];omega⟩ | exact⟨fun _=>aLc (hI (by omega)) ac (fun e=>absurd (oL.2 e) (by omega)),fun h=>absurd h (by omega),by omega,by omega⟩)⟩ (by first | omega |(dsimp only;omega)) (.c .z (.c .g3 (.c .g6 (.c (.s16 .g13) (.c (.s16 .g14) (.c (.s16 .g15) .n)))))) (fun _ h=>h.sel (.c .z (.c .z .n)))
 refine Y.skip (Y.ac (Y.g (Y.region (Y.mv rfl .g15 ?_))))
 refine Y.ql rfl (bQ (c:=((k+1:Nat):Int)) rfl (.t .z) .c (wr (by omega) (by omega) (by omega))) ?_
 refine Y.er (.s16 .g1) (Y.as rfl .z (Y.nil ?_))
 refine Y.ae ((k+1),aa,ab,m,o) ⟨by omega,(by first | exact⟨fun h=>absurd h (by omega),fun _=>aDa (hI (by omega)) (by omega),by omega,by simp only [List.length_append,List.length_cons,List.length_nil];omega⟩ | exact⟨fun _=>aL8 (hI (by omega)) ac (oL.1 (by omega)),fun h=>absurd h (by omega),by omega,by simp only [List.length_append,List.length_cons,List.length_nil];omega⟩ | exact⟨fun _=>aLc (hI (by omega)) ac (fun e=>absurd (oL.2 e) (by omega)),fun h=>absurd h (by omega),by omega,by omega⟩)⟩ (by first | omega |(dsimp only;omega)) (.c .z (.c (.s16 .g2) (.c (.s16 .g3) (.c (.s16 .g4) (.c (.s16 .g5) (.c (.s16 .g6) .n)))))) (fun _ h=>h.sel (.c .z (.c .z .n)))
 refine Y.exit (Y.ab (Y.ab (Y.ai (Y.g (Y.seq (Y.region (Y.mv rfl .g6 (Y.er .g8 ?_))))))))
 refine Y.as rfl .z (Y.nt (Y.ret ?_))
 refine Y.i (aY rfl .z) (.c .z .n) ?_
 rw [←hE (by omega)]

theorem aGl {w0:World}{S0:Bs} (s:ByteArray) (aj:s.size≤140737488351232):
    Calls Tryz.prog 196 #[.string s] w0 (aJ w0 S0 (fun r l=>∃v:Value,r= .tuple #[v,.int .i64 (fV s)]∧l= [aG fB (dY s) [v]])):=by
 refine Y.enter (N:=37) Tryz.func196 rfl rfl (by simp) [(0,.string s)] (by simp) (l0:= []) trivial ?_
 refine Y.seq (Y.region (Y.ql rfl (aA rfl .c) (Y.ql rfl (aA rfl .c) (Y.nt (Y.seq (Y.seq (Y.region ?_)))))))
 refine Y.mv rfl .g2 (Y.ql rfl (nO rfl u_9 (.t .z)) (Y.ql rfl (gO rfl (.t .z) .c) (Y.nt ?_)))
 refine Y.u (.t .z) (fun b1=> ?_) (fun b1=> ?_)
 refine Y.seq (Y.region (Y.er .g4 (Y.ql rfl (aA rfl .c) (Y.er .g4 (Y.ql rfl (aA rfl .c) (Y.nt (Y.ret ?_)))))))
 refine Y.r ?_
 refine Y.add (c:=aG fB [] [.slice none 0 0]) (fun w S=>aN w S none) ?_
 refine Y.i (qB rfl .g1 .z) (.c .z .n) ?_
 have hh:=aI5 (s:=s) (by omega);rw [hh.1,hh.2];exact⟨_,rfl,rfl⟩
 refine Y.skip (Y.g (Y.seq (Y.seq (Y.region (Y.mv rfl .g5 (Y.ql rfl (rM rfl (.t .z) .c) (Y.nt ?_)))))))
 refine Y.u (.t .z) (fun b3=> ?_) (fun b3=> ?_)
 refine Y.seq (Y.region ?_)
 refine Y.el rfl (eH rfl hZ (inz lQ)) ?_
 rintro _ _ ⟨g4,rfl,rfl⟩
 refine Y.er .g7 (Y.as rfl .z (Y.er .g7 (Y.ql rfl (aA rfl .c) (Y.nt (Y.ret (Y.r ?_))))))
 refine Y.add (c:=aG fB ([]:(List ByteArray)) [.slice (some ⟨g4,0,none⟩) 0 0]) (fun w S=>aN w S _) ?_
 refine Y.i (qB rfl .g1 .z) (.c .z .n) ?_
 have hh:=aIj (s:=s) (by omega) (by assumption);rw [hh.1,hh.2];exact⟨_,rfl,rfl⟩
 refine Y.skip (Y.g (Y.seq (Y.seq (Y.region (Y.mv rfl .g7 (Y.ql rfl (nO rfl u_9 (.t .z)) (Y.ql rfl (bZ rfl (.t .z) .c) (Y.mv rfl .z ?_))))))))
 refine Y.al .z (fun g6=> ?_) (fun g6=> ?_)
 refine Y.j rfl rfl .z rfl rfl (by decide) rfl ?_
 refine Y.j rfl rfl .g1 rfl rfl (by decide) rfl ?_
 refine Y.j rfl rfl .g2 rfl rfl (by decide) rfl ?_
 refine Y.ql rfl (bO rfl (.t .g3) .c) (Y.mv rfl .z ?_)
 refine Y.j rfl rfl .z rfl rfl (by decide) rfl ?_
 refine Y.j rfl rfl .g1 rfl rfl (by decide) rfl ?_
 refine Y.j rfl rfl .g2 rfl rfl (by decide) rfl ?_
 refine Y.j rfl rfl .g3 rfl rfl (by decide) rfl ?_
 refine Y.j rfl rfl .g4 rfl rfl (by decide) rfl ?_
 refine Y.j rfl rfl .g5 rfl rfl (by decide) rfl ?_
 refine Y.ql rfl (bO rfl (.t .g6) .c) (Y.nt ?_)
 refine Y.ao (.t .z) ?_
 refine Y.seq (Y.region (Y.er (.s16 .g6) (Y.ql rfl (aA rfl .c) (Y.er (.s16 .g6) (Y.ql rfl (aA rfl .c) (Y.nt (Y.ret ?_)))))))
 refine Y.r ?_
 refine Y.add (c:=aG fB [] [.slice none 0 0]) (fun w S=>aN w S none) ?_
 refine Y.i (qB rfl .g1 .z) (.c .z .n) ?_
 have hh:=aAq (s:=s) (by omega) (by assumption) (by first | exact aIc (by omega) | exact .inl (by assumption) | exact .inr (by assumption));rw [hh.1,hh.2];exact⟨_,rfl,rfl⟩
 refine Y.qg rfl rfl .z rfl rfl rfl (aV rfl (.t .g11)) ?_
 obtain⟨b8,ab⟩:=aI (xs:=s.data.toList) (j:=0) (by have:=mV s;omega)
 refine Y.qg rfl rfl .g1 rfl rfl rfl (mS rfl u_9 (.t .z) .c rfl ab) ?_
 refine Y.qg rfl rfl .g2 rfl rfl rfl (cU rfl (.t .z) .c) ?_
 refine Y.ql rfl (bW rfl (.t .g3) (.t .z)) (Y.mv rfl .z ?_)
 refine Y.ap .z (fun g9=> ?_) (fun g9=> ?_)
 refine Y.j rfl rfl .z rfl rfl (by decide) rfl ?_
 refine Y.j rfl rfl .g1 rfl rfl (by decide) rfl ?_
 refine Y.j rfl rfl .g2 rfl rfl (by decide) rfl ?_
 refine Y.j rfl rfl .g3 rfl rfl (by decide) rfl ?_
 refine Y.j rfl rfl .g4 rfl rfl (by decide) rfl ?_
 refine Y.j rfl rfl .g5 rfl rfl (by decide) rfl ?_
 refine Y.ql rfl (bO rfl (.t .g6) .c) (Y.nt ?_)
 refine Y.ao (.t .z) ?_
 refine Y.seq (Y.region (Y.er (.s16 .g6) (Y.ql rfl (aA rfl .c) (Y.er (.s16 .g6) (Y.ql rfl (aA rfl .c) (Y.nt (Y.ret ?_)))))))
 refine Y.r ?_
 refine Y.add (c:=aG fB [] [.slice none 0 0]) (fun w S=>aN w S none) ?_
 refine Y.i (qB rfl .g1 .z) (.c .z .n) ?_
 have hh:=aAq (s:=s) (by omega) (by assumption) (by first | exact aIc (by omega) | exact .inl (by assumption) | exact .inr (by assumption) | exact aKb ab (by omega));rw [hh.1,hh.2];exact⟨_,rfl,rfl⟩
 refine Y.qg rfl rfl .z rfl rfl rfl (aV rfl (.t .g16)) ?_
 refine Y.qg rfl rfl .g1 rfl rfl rfl (aV rfl (.t (.s16 .g1))) ?_
 refine Y.qg rfl rfl .g2 rfl rfl rfl (nO rfl u_9 (.t .z)) ?_
 refine Y.qg rfl rfl .g3 rfl rfl rfl (jL (c:=(s.size:Int) - 1) rfl (.t .z) .c (wr (by omega) (by omega) (by omega))) ?_
 obtain⟨ak,aa⟩:=aI (xs:=s.data.toList) (j:=Int.toNat ((s.size:Int) - 1)) (by have:=mV s;omega)
 refine Y.qg rfl rfl .g4 rfl rfl rfl (mS rfl u_9 (.t .g3) (.t .z) (by omega) aa) ?_
 refine Y.qg rfl rfl .g5 rfl rfl rfl (bZ rfl (.t .z) .c) ?_
 refine Y.ql rfl (bW rfl (.t .g6) (.t .z)) (Y.nt ?_)
 refine Y.u (.t .z) (fun af=> ?_) (fun af=> ?_)
 refine Y.seq (Y.region (Y.er (.s16 .g6) (Y.ql rfl (aA rfl .c) (Y.er (.s16 .g6) (Y.ql rfl (aA rfl .c) (Y.nt (Y.ret ?_)))))))
 refine Y.r ?_
 refine Y.add (c:=aG fB [] [.slice none 0 0]) (fun w S=>aN w S none) ?_
 refine Y.i (qB rfl .g1 .z) (.c .z .n) ?_
 have hh:=aAq (s:=s) (by omega) (by assumption) (by first | exact aIc (by omega) | exact .inl (by assumption) | exact .inr (by assumption) | exact aKb ab (by omega) | exact aM0 aa (by omega) (by omega));rw [hh.1,hh.2];exact⟨_,rfl,rfl⟩
 refine Y.skip (Y.g (Y.seq (Y.region (Y.mv rfl (.s16 .g7) ?_))))
 refine Y.ql rfl (vE (a:=1) (b:=s.size) rfl u_9 (.t .z) (.inr ⟨_,_,rfl,.c⟩) (.inl ⟨rfl,rfl⟩) (by omega) (by omega)) ?_
 refine Y.cl rfl rfl Tryz.func205 rfl rfl (aX (.t .z) .c) .n (fun _ _ hs tr=>aLd _ (by rw [ByteArray.size_extract];omega) _ (by first | rfl | decide) (by first | omega |(rw [ByteArray.size_extract];omega))) ?_
 rintro _ _ rfl
 refine Y.m (.c .n) ?_
 refine Y.h (WS.a .z) ?_
 rintro⟨ag,ah,rfl,ac,ad,ae⟩
 refine Y.as rfl .z (Y.nt (Y.seq (Y.seq (Y.region (Y.mv rfl .z ?_)))))
 refine Y.cl rfl rfl Tryz.func206 rfl rfl (bT (.t .z)) .n (fun _ _ hs tr=>aLz (tr.own .z)) ?_
 rintro _ _ ⟨rfl,rfl⟩
 refine Y.m .n ?_
 refine Y.as rfl .z (Y.nt (Y.seq (Y.region (Y.mv rfl .z (Y.ql rfl (cU rfl (.t .z) .c) (Y.nt ?_))))))
 refine Y.ad (.t .z) (fun ai=> ?_) (fun ai=> ?_)
 refine Y.seq (Y.region (Y.mv rfl .g2 (Y.er (.s16 .g16) (Y.ql rfl (aA rfl .c) (Y.er (.s16 .g16) (Y.as rfl .g1 (Y.nt ?_)))))))
 refine Y.ret (Y.r ?_)
 refine Y.add (c:=aG fB [] [.slice none 0 0]) (fun w S=>aN w S none) ?_
 refine Y.i (qB rfl .g1 .z) (.c .z .n) ?_
 have hh:=aI3 (s:=s) (by omega) (by assumption) (by first | exact aJ3 (by assumption) (by assumption) | exact aL0 ab (by omega) aa (by omega) (by omega)) (by assumption);rw [hh.1,hh.2];exact⟨_,rfl,rfl⟩
 refine Y.skip (Y.g (Y.seq (Y.region (Y.mv rfl .g5 (Y.er (.s16 .g16) (Y.as rfl .z (Y.er (.s16 .g16) (Y.ql rfl (aA rfl .c) ?_))))))))
 refine Y.nt (Y.ret ?_)
 refine Y.i (qB rfl .g1 .z) (.c .z .n) ?_
 have hh:=aJj (s:=s) (by omega) (by assumption) (by first | exact aJ3 (by assumption) (by assumption) | exact aL0 ab (by omega) aa (by omega) (by omega)) (by first | assumption | omega);rw [hh.1,hh.2];exact⟨_,rfl,rfl⟩

end Go.Proofs.YtmejbfmhaoilmaaGreat

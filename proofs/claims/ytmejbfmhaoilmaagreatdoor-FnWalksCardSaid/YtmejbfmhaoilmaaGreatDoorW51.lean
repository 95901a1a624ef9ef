/- What is proved: contracts of functions, one a function. No condition. -/
import Derived.Test.YtmejbfmhaoilmaaGreatDoorBase1
import Derived.Test.YtmejbfmhaoilmaaGreatDoorPart5
import Derived.Test.YtmejbfmhaoilmaaGreatDoorBase2
namespace Go.Proofs.YtmejbfmhaoilmaaGreatDoor
open Go Go.RowKit
set_option linter.unusedVariables false
set_option linter.unusedSimpArgs false
set_option maxHeartbeats 1000000
set_option maxRecDepth 20000
theorem aLf {w0:World}{S0:Bs}{g0 e0 s0:Nat}{ac:List Value}{cd:List UInt8}{Ac:Option Addr}{cc:Nat} (hcd:dD.ro w0 (FF w0 S0) cd [.slice Ac cd.length cc]) {a:Int} (hs:cI [bV g0 e0 s0 1 ((.slice Ac cd.length cc) :: (.int .i64 a) :: ac)] w0 S0) (ha:0≤a∧a≤990000):
    Calls Tryz.prog 32 #[.pointer (some ⟨g0,0,none⟩)] w0 (aI w0 S0 (fun r l=>∃(x:aF) (v0_ v1_:Value) (u:Int),(x.blocks.length≤10∧x.ents.length≤5∧(∀e,e∈x.ents→e.name.size≤4)∧(∀b,b∈x.blocks→0≤b∧b≤19)∧a≤u∧u≤a+40)∧r= .agg #[.int .i64 x.kind,.int .i64 x.links,.int .i64 x.size,v0_,v1_]∧l= [aH bK x.blocks [v0_],aH dU x.ents [v1_],bV g0 e0 s0 1 (.slice Ac cd.length cc :: .int .i64 u :: ac)])):=by
 obtain⟨hlc,hmc,hbc⟩:=nA hcd
 refine Y.enter (N:=64) Tryz.func32 rfl rfl (by simp) [(0,.pointer (some ⟨g0,0,none⟩))] (by simp) hs ?_
 refine Y.seq (Y.region ?_)
 refine Y.el rfl (bB rfl sX rfl rfl) ?_
 rintro _ _ ⟨g2,rfl,rfl⟩
 refine Y.nt (Y.seq (Y.seq (Y.region (Y.mv rfl .g1 ?_))))
 refine Y.cl rfl rfl Tryz.func30 rfl rfl (aS (.t .z) .c) (.c .g1 .n) (fun _ _ hs tr=>mV (tr.ctx hcd) _ hs (by omega) (by omega)) ?_
 rintro _ _ ⟨m3,h0m3,h1m3,rfl,rfl⟩
 refine Y.m (.c .n) ?_
 refine Y.nt (Y.block (Y.seq (Y.region (Y.ql rfl (bU rfl (.t .z) .c) (Y.as rfl .z (Y.nt ?_))))))
 refine Y.u (.t .z) (fun b4=> ?_) (fun b4=> ?_)
 refine Y.seq (Y.region (Y.ql rfl (aW (cs:= [.int .i64 0,.int .i64 0,.int .i64 0,.slice none 0 0,.slice none 0 0]) rfl sH pv0 rfl) ?_))
 refine Y.es (aE rfl) rfl (esW rfl (.t .g5) (.t .z) .g1 aT rfl rfl) ?_
 refine Y.nt (Y.ret (Y.v (Y.j ?_)))
 refine Y.add (c:=aH bK [] [.slice none 0 0]) (fun w S=>aL w S none) ?_
 refine Y.add (c:=aH dU [] [.slice none 0 0]) (fun w S=>aL w S none) ?_
 refine Y.i (cU rfl .g5 fH .g2 aT) (.c .g1 (.c .z (.c .g1 .n))) ?_
 exact⟨⟨0,0,0,[],[]⟩,_,_,_,⟨by first | omega |(dsimp only;omega) |(simp <;> omega),by first | omega |(dsimp only;omega) |(simp <;> omega),by first | exact hEn |(intro e he;simp at he;done),by first | exact hBn |(intro b hb;simp at hb;done),by omega,by omega⟩,rfl,rfl⟩
 refine Y.seq (Y.seq (Y.region (Y.ql rfl (bU rfl (.t .g2) .c) (Y.as rfl .z (Y.nt ?_)))))
 refine Y.u (.t .z) (fun b7=> ?_) (fun b7=> ?_)
 refine Y.skip (Y.g ?_)
 refine Y.u (.t .z) (fun b8=> ?_) (fun b8=> ?_)
 refine Y.seq (Y.region (Y.ql rfl (aW (cs:= [.int .i64 2,.int .i64 0,.int .i64 0,.slice none 0 0,.slice none 0 0]) rfl sH (pv1 .c) rfl) ?_))
 refine Y.el rfl (bB rfl sX rfl rfl) ?_
 rintro _ _ ⟨g9,rfl,rfl⟩
 refine Y.es (aE rfl) rfl (esW rfl (.t .z) (.t .g1) .z aT rfl rfl) ?_
 refine Y.nt (Y.seq (Y.region ?_))
 refine Y.el rfl (aQ (ps:= [(0,.string (⟨#[97]⟩)),(1,.string (⟨#[97,98]⟩)),(2,.string (⟨#[98]⟩)),(3,.string (⟨#[99]⟩)),(4,.string (⟨#[104,97,108,108]⟩))]) (cs:= [.string (⟨#[97]⟩),.string (⟨#[97,98]⟩),.string (⟨#[98]⟩),.string (⟨#[99]⟩),.string (⟨#[104,97,108,108]⟩)]) rfl eQ (inz jK) (by decide) (by intro act hact;simp only [List.map_toArray,List.map_cons,List.map_nil,(show Val _ _ _ from .c) act hact,(show Val _ _ _ from .c) act hact,(show Val _ _ _ from .c) act hact,(show Val _ _ _ from .c) act hact,(show Val _ _ _ from .c) act hact]) rfl rfl (by decide) rfl rfl) ?_
 rintro _ _ ⟨g10,rfl,rfl⟩
 refine Y.as rfl .z (Y.nt (Y.seq (Y.seq (Y.region (Y.ql rfl (aA rfl .c) (Y.nt ?_))))))
 refine Y.block ?_
 refine Y.ad (c:=aH cT ([⟨#[97]⟩,⟨#[97,98]⟩,⟨#[98]⟩,⟨#[99]⟩,⟨#[104,97,108,108]⟩]:(List ByteArray)) [.slice (some ⟨g10,0,none⟩) 5 5]) (.c .z .n) (fun w S h=>fS (xs:=([⟨#[97]⟩,⟨#[97,98]⟩,⟨#[98]⟩,⟨#[99]⟩,⟨#[104,97,108,108]⟩]:(List ByteArray))) h rfl (by decide) (by omega) (by omega)) ?_
 refine Y.add (c:=aH dU [] [.slice none 0 0]) (fun w S=>aL w S none) ?_
 refine Y.ai (γ:=Nat×(Option Addr)×Nat×Int×(List bO)) (fun⟨j,aa,ab,z,E⟩=> [(5,.int .i64 (j:Int)),(4,.slice (some ⟨g10,0,none⟩) 5 5),(3,.pointer (some ⟨g9,0,none⟩)),(2,.pointer (some ⟨g2,0,none⟩)),(0,.pointer (some ⟨g0,0,none⟩))]) (fun⟨j,aa,ab,z,E⟩=> [aH dU E [.slice aa E.length ab],aH cT ([⟨#[97]⟩,⟨#[97,98]⟩,⟨#[98]⟩,⟨#[99]⟩,⟨#[104,97,108,108]⟩]:(List ByteArray)) [.slice (some ⟨g10,0,none⟩) 5 5],bV g9 46 5 1 [.int .i64 2,.int .i64 0,.int .i64 0,.slice none 0 0,.slice aa E.length ab],bV g0 e0 s0 1 ((.slice Ac cd.length cc) :: (.int .i64 z) :: ac),bV g2 46 5 1 [.int .i64 0,.int .i64 0,.int .i64 0,.slice none 0 0,.slice none 0 0]]) (fun⟨j,aa,ab,z,E⟩=>j≤5∧(a≤z∧z≤a+1+2 * j)∧E.length≤j∧∀e,e∈E→e.name.size≤4) (fun⟨j,aa,ab,z,E⟩=>5 - j) (0,none,0,(a+1),[]) ⟨Nat.zero_le _,by omega,Nat.le_refl _,fun e he=>absurd he (by simp)⟩ (.c .z (.c .g1 (.c .g3 (.c .g11 (.c .g12 .n))))) (fun _ h=>h.sel (.c .z (.c .z (.c .z (.c .z (.c .z .n)))))) ?_
 rintro⟨j,aa,ab,z,E⟩ ⟨hj,hz,hE,hEn⟩
 refine Y.seq (Y.seq (Y.region (Y.mv rfl .z (Y.mv rfl .g2 (Y.ql rfl (bD rfl eQ (.t .z)) (Y.ql rfl (dA rfl (.t .g2) (.t .z)) (Y.nt ?_)))))))
 refine Y.u (.t .z) (fun a5=> ?_) (fun a5=> ?_)
 refine Y.skip (Y.g (Y.seq (Y.block (Y.seq (Y.region (Y.mv rfl .g8 ?_))))))
 refine Y.cl rfl rfl Tryz.func55 rfl rfl (aS (.t .z) .c) (.c .g3 .n) (fun _ _ hs tr=>aK2 (tr.ctx hcd) _ hs (by omega) (by omega)) ?_
 rintro _ _ ⟨bb,rfl,rfl⟩
 refine Y.m (.c .n) ?_
 refine Y.nt ?_
 refine Y.cond (.t .z) (fun a6=> ?_) (fun a6=> ?_)
 refine Y.dr .g2 12 fR ?_
 refine Y.sc (qs 0 7++ [(7,false),(8,true),(9,false),(10,false),(11,true),(12,false)]) (by kernel_rfl) ?_
 refine Y.df rfl rfl .g2 .g8 bL (Y.dl rfl rfl .g2 dX .z .g1 (Y.dm rfl rfl .g2 .g9 (Y.dm rfl rfl .g2 .g9 ?_)))
 refine Y.dk rfl rfl .g2 (aB (j:=j) rfl eQ mU (.t .g1) (.t .z) rfl (by first | omega |(simp <;> omega))) ?_
 obtain⟨af,al⟩:=aK (xs:=([⟨#[97]⟩,⟨#[97,98]⟩,⟨#[98]⟩,⟨#[99]⟩,⟨#[104,97,108,108]⟩]:(List ByteArray))) (j:=j) (by first | omega |(simp <;> omega))
 refine Y.dk rfl rfl .g2 (aM rfl iH (.t .z) (WS.m .z al)) (Y.dm rfl rfl .g2 .g16 ?_)
 refine Y.call (aC rfl rfl) rfl (by decide) rfl (bE rfl Tryz.func30 rfl rfl (aS (.t .z) .c)) (.c .z .n) (fun _ _ hs tr=>mV (tr.ctx hcd) _ hs (by omega) (by omega)) ?_
 rintro _ _ ⟨ag,h0m17,h1m17,rfl,rfl⟩
 refine Y.m (.c .n) ?_
 refine Y.sk .g2 ?_
 refine Y.dk rfl rfl .g2 (aW (cs:= [.string af,.int .i64 ag]) rfl uJ (pv2 (.t .g2) (.t .z)) rfl) ?_
 refine Y.e (aC rfl rfl) rfl (by decide) rfl (aQ (cs:= [.string af,.int .i64 ag]) rfl dP (inz eI) (by decide) (pv1 (.t .z)) rfl rfl (by decide) rfl rfl) ?_
 rintro _ _ ⟨g18,rfl,rfl⟩
 refine Y.sk .g3 ?_
 refine Y.ad (c:=aH kC (⟨af,ag⟩:bO) [.string af,.int .i64 ag]) .n (fun w S h=>iO (⟨af,ag⟩:bO) h (by first | assumption | omega |(dsimp only;exact zB _ (List.mem_of_getElem? (by assumption))) | decide)) ?_
 refine Y.e (aC rfl rfl) rfl (by decide) rfl (dK rfl dP eI rfl (.t .g8) (.t .z) (.c .g3 (.c .g1 (.c .z .n))) (by first | omega |(simp <;> omega)) (by first | omega |(simp <;> omega))) ?_
 rintro _ _ rfl
 refine Y.h (WS.a .z) ?_
 rintro⟨am,an,rfl,aw,ax,ay⟩
 refine Y.sk .g2 ?_
 refine Y.df rfl rfl .g2 (.s16 .g3) bL ?_
 refine Y.es (aC rfl rfl) rfl (es1 (off:=4) rfl qO (.t .z) (.t .g1) rfl rfl .g3 rfl .g4) ?_
 refine Y.sl rfl ?_
 refine Y.w ?_
 refine Y.af (by kernel_rfl) ?_
 refine Y.ab (Y.g (Y.region (Y.mv rfl (.s16 .g2) ?_)))
 refine Y.ql rfl (bN (c:=((j+1:Nat):Int)) rfl (.t .z) .c (wr (by omega) (by omega) (by omega))) ?_
 refine Y.er (.s16 .g4) (Y.as rfl .z (Y.nil ?_))
 refine Y.ae ((j+1),am,an,((z+1)+1),E++ [(⟨af,ag⟩:bO)]) ⟨by omega,⟨by omega,(by first | omega |(simp <;> omega)),(by first | exact hEn | exact fun e he=>(List.mem_append.1 he).elim (hEn e) (fun he=>by obtain rfl:=List.mem_singleton.1 he;exact rP _ (List.mem_of_getElem? (by assumption))))⟩⟩ (by first | omega |(dsimp only;omega)) (.c .z (.c (.s16 .g5) (.c (.s16 .g6) (.c (.s16 .g7) (.c (.s16 .g8) .n))))) (fun _ h=>h.sel (.c .g1 (.c .g2 (.c .z (.c .z (.c .z .n))))))
 refine Y.skip (Y.ab (Y.g (Y.region (Y.mv rfl .g6 ?_))))
 refine Y.ql rfl (bN (c:=((j+1:Nat):Int)) rfl (.t .z) .c (wr (by omega) (by omega) (by omega))) ?_
 refine Y.er .g8 (Y.as rfl .z (Y.nil ?_))
 refine Y.ae ((j+1),aa,ab,(z+1),E) ⟨by omega,⟨by omega,(by first | omega |(simp <;> omega)),(by first | exact hEn | exact fun e he=>(List.mem_append.1 he).elim (hEn e) (fun he=>by obtain rfl:=List.mem_singleton.1 he;exact rP _ (List.mem_of_getElem? (by assumption))))⟩⟩ (by first | omega |(dsimp only;omega)) (.c .z (.c .g9 (.c .g10 (.c .g11 (.c .g12 .n))))) (fun _ h=>h.sel (.c .g1 (.c .g1 (.c .g1 (.c .z (.c .z .n))))))
 refine Y.exit (Y.y (Y.y (Y.ag (Y.g (Y.seq (Y.region (Y.ql rfl (qW rfl fH (.t .g6) .g2 aT) ?_)))))))
 refine Y.es (aE rfl) rfl (esW rfl (.t .g8) (.t .z) .g4 aT rfl rfl) ?_
 refine Y.nt (Y.ret (Y.v (Y.j ?_)))
 refine Y.add (c:=aH bK [] [.slice none 0 0]) (fun w S=>aL w S none) ?_
 refine Y.i (cU rfl .g8 fH .g1 aT) (.c .z (.c .g1 (.c .g3 .n))) ?_
 exact⟨⟨2,0,0,[],E⟩,_,_,_,⟨by first | omega |(dsimp only;omega) |(simp <;> omega),by first | omega |(dsimp only;omega) |(simp <;> omega),by first | exact hEn |(intro e he;simp at he;done),by first | exact hBn |(intro b hb;simp at hb;done),by omega,by omega⟩,rfl,rfl⟩
 exfalso;first | omega | contradiction
 refine Y.region (Y.ql rfl (bU rfl (.t .g4) .c) (Y.er .g1 (Y.as rfl .z (Y.nt ?_))))
 refine Y.u (.t .z) (fun a7=> ?_) (fun a7=> ?_)
 refine Y.seq (Y.region (Y.ql rfl (aW (cs:= [.int .i64 2,.int .i64 0,.int .i64 0,.slice none 0 0,.slice none 0 0]) rfl sH (pv1 .c) rfl) ?_))
 refine Y.el rfl (bB rfl sX rfl rfl) ?_
 rintro _ _ ⟨g23,rfl,rfl⟩
 refine Y.es (aE rfl) rfl (esW rfl (.t .z) (.t .g1) .z aT rfl rfl) ?_
 refine Y.nt (Y.seq (Y.region ?_))
 refine Y.el rfl (aQ (ps:= [(0,.string (⟨#[97]⟩)),(1,.string (⟨#[97,98]⟩)),(2,.string (⟨#[98]⟩)),(3,.string (⟨#[99]⟩)),(4,.string (⟨#[104,97,108,108]⟩))]) (cs:= [.string (⟨#[97]⟩),.string (⟨#[97,98]⟩),.string (⟨#[98]⟩),.string (⟨#[99]⟩),.string (⟨#[104,97,108,108]⟩)]) rfl eQ (inz jK) (by decide) (by intro act hact;simp only [List.map_toArray,List.map_cons,List.map_nil,(show Val _ _ _ from .c) act hact,(show Val _ _ _ from .c) act hact,(show Val _ _ _ from .c) act hact,(show Val _ _ _ from .c) act hact,(show Val _ _ _ from .c) act hact]) rfl rfl (by decide) rfl rfl) ?_
 rintro _ _ ⟨g24,rfl,rfl⟩
 refine Y.as rfl .z (Y.nt (Y.seq (Y.seq (Y.region (Y.ql rfl (aA rfl .c) (Y.nt ?_))))))
 refine Y.block ?_
 refine Y.ad (c:=aH cT ([⟨#[97]⟩,⟨#[97,98]⟩,⟨#[98]⟩,⟨#[99]⟩,⟨#[104,97,108,108]⟩]:(List ByteArray)) [.slice (some ⟨g24,0,none⟩) 5 5]) (.c .z .n) (fun w S h=>fS (xs:=([⟨#[97]⟩,⟨#[97,98]⟩,⟨#[98]⟩,⟨#[99]⟩,⟨#[104,97,108,108]⟩]:(List ByteArray))) h rfl (by decide) (by omega) (by omega)) ?_
 refine Y.add (c:=aH dU [] [.slice none 0 0]) (fun w S=>aL w S none) ?_
 refine Y.ai (γ:=Nat×(Option Addr)×Nat×Int×(List bO)) (fun⟨j,aa,ab,z,E⟩=> [(5,.int .i64 (j:Int)),(4,.slice (some ⟨g24,0,none⟩) 5 5),(3,.pointer (some ⟨g23,0,none⟩)),(2,.pointer (some ⟨g2,0,none⟩)),(0,.pointer (some ⟨g0,0,none⟩))]) (fun⟨j,aa,ab,z,E⟩=> [aH dU E [.slice aa E.length ab],aH cT ([⟨#[97]⟩,⟨#[97,98]⟩,⟨#[98]⟩,⟨#[99]⟩,⟨#[104,97,108,108]⟩]:(List ByteArray)) [.slice (some ⟨g24,0,none⟩) 5 5],bV g23 46 5 1 [.int .i64 2,.int .i64 0,.int .i64 0,.slice none 0 0,.slice aa E.length ab],bV g0 e0 s0 1 ((.slice Ac cd.length cc) :: (.int .i64 z) :: ac),bV g2 46 5 1 [.int .i64 0,.int .i64 0,.int .i64 0,.slice none 0 0,.slice none 0 0]]) (fun⟨j,aa,ab,z,E⟩=>j≤5∧(a≤z∧z≤a+1+2 * j)∧E.length≤j∧∀e,e∈E→e.name.size≤4) (fun⟨j,aa,ab,z,E⟩=>5 - j) (0,none,0,(a+1),[]) ⟨Nat.zero_le _,by omega,Nat.le_refl _,fun e he=>absurd he (by simp)⟩ (.c .z (.c .g1 (.c .g3 (.c .g12 (.c .g13 .n))))) (fun _ h=>h.sel (.c .z (.c .z (.c .z (.c .z (.c .z .n)))))) ?_
 rintro⟨j,aa,ab,z,E⟩ ⟨hj,hz,hE,hEn⟩
 refine Y.seq (Y.seq (Y.region (Y.mv rfl .z (Y.mv rfl .g2 (Y.ql rfl (bD rfl eQ (.t .z)) (Y.ql rfl (dA rfl (.t .g2) (.t .z)) (Y.nt ?_)))))))
 refine Y.u (.t .z) (fun a8=> ?_) (fun a8=> ?_)
 refine Y.skip (Y.g (Y.seq (Y.block (Y.seq (Y.region (Y.mv rfl .g8 ?_))))))
 refine Y.cl rfl rfl Tryz.func55 rfl rfl (aS (.t .z) .c) (.c .g3 .n) (fun _ _ hs tr=>aK2 (tr.ctx hcd) _ hs (by omega) (by omega)) ?_
 rintro _ _ ⟨bc,rfl,rfl⟩
 refine Y.m (.c .n) ?_
 refine Y.nt ?_
 refine Y.cond (.t .z) (fun a9=> ?_) (fun a9=> ?_)
 refine Y.dr .g2 12 fR ?_
 refine Y.sc (qs 0 7++ [(7,false),(8,true),(9,false),(10,false),(11,true),(12,false)]) (by kernel_rfl) ?_
 refine Y.df rfl rfl .g2 .g8 bL (Y.dl rfl rfl .g2 dX .z .g1 (Y.dm rfl rfl .g2 .g9 (Y.dm rfl rfl .g2 .g9 ?_)))
 refine Y.dk rfl rfl .g2 (aB (j:=j) rfl eQ mU (.t .g1) (.t .z) rfl (by first | omega |(simp <;> omega))) ?_
 obtain⟨ah,ao⟩:=aK (xs:=([⟨#[97]⟩,⟨#[97,98]⟩,⟨#[98]⟩,⟨#[99]⟩,⟨#[104,97,108,108]⟩]:(List ByteArray))) (j:=j) (by first | omega |(simp <;> omega))
 refine Y.dk rfl rfl .g2 (aM rfl iH (.t .z) (WS.m .z ao)) (Y.dm rfl rfl .g2 .g16 ?_)
 refine Y.call (aC rfl rfl) rfl (by decide) rfl (bE rfl Tryz.func30 rfl rfl (aS (.t .z) .c)) (.c .z .n) (fun _ _ hs tr=>mV (tr.ctx hcd) _ hs (by omega) (by omega)) ?_
 rintro _ _ ⟨ai,h0m31,h1m31,rfl,rfl⟩
 refine Y.m (.c .n) ?_
 refine Y.sk .g2 ?_
 refine Y.dk rfl rfl .g2 (aW (cs:= [.string ah,.int .i64 ai]) rfl uJ (pv2 (.t .g2) (.t .z)) rfl) ?_
 refine Y.e (aC rfl rfl) rfl (by decide) rfl (aQ (cs:= [.string ah,.int .i64 ai]) rfl dP (inz eI) (by decide) (pv1 (.t .z)) rfl rfl (by decide) rfl rfl) ?_
 rintro _ _ ⟨g32,rfl,rfl⟩
 refine Y.sk .g3 ?_
 refine Y.ad (c:=aH kC (⟨ah,ai⟩:bO) [.string ah,.int .i64 ai]) .n (fun w S h=>iO (⟨ah,ai⟩:bO) h (by first | assumption | omega |(dsimp only;exact zB _ (List.mem_of_getElem? (by assumption))) | decide)) ?_
 refine Y.e (aC rfl rfl) rfl (by decide) rfl (dK rfl dP eI rfl (.t .g8) (.t .z) (.c .g3 (.c .g1 (.c .z .n))) (by first | omega |(simp <;> omega)) (by first | omega |(simp <;> omega))) ?_
 rintro _ _ rfl
 refine Y.h (WS.a .z) ?_
 rintro⟨ap,aq,rfl,az,a0,a1⟩
 refine Y.sk .g2 ?_
 refine Y.df rfl rfl .g2 (.s16 .g3) bL ?_
 refine Y.es (aC rfl rfl) rfl (es1 (off:=4) rfl qO (.t .z) (.t .g1) rfl rfl .g3 rfl .g4) ?_
 refine Y.sl rfl ?_
 refine Y.w ?_
 refine Y.af (by kernel_rfl) ?_
 refine Y.ab (Y.g (Y.region (Y.mv rfl (.s16 .g2) ?_)))
 refine Y.ql rfl (bN (c:=((j+1:Nat):Int)) rfl (.t .z) .c (wr (by omega) (by omega) (by omega))) ?_
 refine Y.er (.s16 .g4) (Y.as rfl .z (Y.nil ?_))
 refine Y.ae ((j+1),ap,aq,((z+1)+1),E++ [(⟨ah,ai⟩:bO)]) ⟨by omega,⟨by omega,(by first | omega |(simp <;> omega)),(by first | exact hEn | exact fun e he=>(List.mem_append.1 he).elim (hEn e) (fun he=>by obtain rfl:=List.mem_singleton.1 he;exact rP _ (List.mem_of_getElem? (by assumption))))⟩⟩ (by first | omega |(dsimp only;omega)) (.c .z (.c (.s16 .g5) (.c (.s16 .g6) (.c (.s16 .g7) (.c (.s16 .g8) .n))))) (fun _ h=>h.sel (.c .g1 (.c .g2 (.c .z (.c .z (.c .z .n))))))
 refine Y.skip (Y.ab (Y.g (Y.region (Y.mv rfl .g6 ?_))))
 refine Y.ql rfl (bN (c:=((j+1:Nat):Int)) rfl (.t .z) .c (wr (by omega) (by omega) (by omega))) ?_
 refine Y.er .g8 (Y.as rfl .z (Y.nil ?_))
 refine Y.ae ((j+1),aa,ab,(z+1),E) ⟨by omega,⟨by omega,(by first | omega |(simp <;> omega)),(by first | exact hEn | exact fun e he=>(List.mem_append.1 he).elim (hEn e) (fun he=>by obtain rfl:=List.mem_singleton.1 he;exact rP _ (List.mem_of_getElem? (by assumption))))⟩⟩ (by first | omega |(dsimp only;omega)) (.c .z (.c .g9 (.c .g10 (.c .g11 (.c .g12 .n))))) (fun _ h=>h.sel (.c .g1 (.c .g1 (.c .g1 (.c .z (.c .z .n))))))
 refine Y.exit (Y.y (Y.y (Y.ag (Y.g (Y.seq (Y.region (Y.ql rfl (qW rfl fH (.t .g6) .g2 aT) ?_)))))))
 refine Y.es (aE rfl) rfl (esW rfl (.t .g8) (.t .z) .g4 aT rfl rfl) ?_
 refine Y.nt (Y.ret (Y.v (Y.j ?_)))
 refine Y.add (c:=aH bK [] [.slice none 0 0]) (fun w S=>aL w S none) ?_
 refine Y.i (cU rfl .g8 fH .g1 aT) (.c .z (.c .g1 (.c .g3 .n))) ?_
 exact⟨⟨2,0,0,[],E⟩,_,_,_,⟨by first | omega |(dsimp only;omega) |(simp <;> omega),by first | omega |(dsimp only;omega) |(simp <;> omega),by first | exact hEn |(intro e he;simp at he;done),by first | exact hBn |(intro b hb;simp at hb;done),by omega,by omega⟩,rfl,rfl⟩
 refine Y.skip (Y.ab (Y.g (Y.seq (Y.region (Y.mv rfl .g8 ?_)))))
 refine Y.cl rfl rfl Tryz.func30 rfl rfl (aS (.t .z) .c) (.c .z .n) (fun _ _ hs tr=>mV (tr.ctx hcd) _ hs (by omega) (by omega)) ?_
 rintro _ _ ⟨ak,h0m36,h1m36,rfl,rfl⟩
 refine Y.m (.c .n) ?_
 refine Y.ql rfl (bN (c:=1+ak) rfl .c (.t .z) (wr (by omega) (by omega) (by omega))) ?_
 refine Y.mv rfl .g11 ?_
 refine Y.cl rfl rfl Tryz.func30 rfl rfl (aS (.t .z) .c) (.c .z .n) (fun _ _ hs tr=>mV (tr.ctx hcd) _ hs (by omega) (by omega)) ?_
 rintro _ _ ⟨ar,h0m37,h1m37,rfl,rfl⟩
 refine Y.m (.c .n) ?_
 refine Y.ql rfl (aW (cs:= [.int .i64 1,.int .i64 (1+ak),.int .i64 ar,.slice none 0 0,.slice none 0 0]) rfl sH (pv3 .c (.t .g2) (.t .z)) rfl) ?_
 refine Y.el rfl (bB rfl sX rfl rfl) ?_
 rintro _ _ ⟨g38,rfl,rfl⟩
 refine Y.es (aE rfl) rfl (esW rfl (.t .z) (.t .g1) .z aT rfl rfl) ?_
 refine Y.nt (Y.seq (Y.seq (Y.region (Y.ql rfl (aA rfl .c) (Y.nt (Y.block ?_))))))
 refine Y.add (c:=aH bK [] [.slice none 0 0]) (fun w S=>aL w S none) ?_
 refine Y.ai (γ:=(Option Addr)×Nat×Int×Int×(List Int)) (fun⟨ad,ae,j,z,B⟩=> [(7,.int .i64 j),(6,.pointer (some ⟨g38,0,none⟩)),(2,.pointer (some ⟨g2,0,none⟩)),(0,.pointer (some ⟨g0,0,none⟩))]) (fun⟨ad,ae,j,z,B⟩=> [aH bK B [.slice ad B.length ae],bV g38 46 5 1 [.int .i64 1,.int .i64 (1+ak),.int .i64 ar,.slice ad B.length ae,.slice none 0 0],bV g0 e0 s0 1 ((.slice Ac cd.length cc) :: (.int .i64 z) :: ac),bV g2 46 5 1 [.int .i64 0,.int .i64 0,.int .i64 0,.slice none 0 0,.slice none 0 0]]) (fun⟨ad,ae,j,z,B⟩=>(0≤j∧j≤10)∧(a≤z∧z≤a+5+j)∧(B.length:Int)=j∧∀b,b∈B→0≤b∧b≤19) (fun⟨ad,ae,j,z,B⟩=>(10 - j:Int).toNat) (none,0,0,(((a+1)+1)+1),[]) ⟨by omega,by omega,rfl,fun b hb=>absurd hb (by simp)⟩ (.c .z (.c .g1 (.c .g15 (.c .g16 .n)))) (fun _ h=>h.sel (.c .z (.c .z (.c .z (.c .z .n))))) ?_
 rintro⟨ad,ae,j,z,B⟩ ⟨hj,hz,hB,hBn⟩
 refine Y.seq (Y.seq (Y.region (Y.mv rfl .z (Y.fa rfl .g2 gU (Y.ld rfl bP .z .g1 ?_)))))
 refine Y.cl rfl rfl Tryz.func59 rfl rfl (bG (.t .z)) .n (fun _ _ hs tr=>aIw _ (by omega) (by omega)) ?_
 rintro _ _ ⟨rfl,rfl⟩
 refine Y.m .n ?_
 refine Y.ql rfl (dA rfl (.t .g3) (.t .z)) (Y.nt ?_)
 refine Y.u (.t .z) (fun ba=> ?_) (fun ba=> ?_)
 refine Y.skip (Y.g (Y.seq (Y.block ?_)))
 refine Y.sel (.c .z (.c .g1 (.c .z (.c .z .n)))) ?_
 refine Y.dr .g2 11 fR ?_
 refine Y.sc (qs 0 3++ [(4,true),(5,true),(3,false),(6,true),(7,true),(8,false),(9,false),(10,true),(11,false)]) (by kernel_rfl) ?_
 refine Y.df rfl rfl .g2 .g6 dH (Y.dl rfl rfl .g2 eZ .z .z (Y.dm rfl rfl .g2 .g10 (Y.dm rfl rfl .g2 .g8 ?_)))
 refine Y.dk rfl rfl .g2 (rH (c:=5 * j) rfl .c (.t .z) (wr (by omega) (by omega) (by omega))) ?_
 refine Y.call (aC rfl rfl) rfl (by decide) rfl (bE rfl Tryz.func30 rfl rfl (aS (.t .g2) .c)) (.c .g1 .n) (fun _ _ hs tr=>mV (tr.ctx hcd) _ hs (by omega) (by omega)) ?_
 rintro _ _ ⟨aj,h0m41,h1m41,rfl,rfl⟩
 refine Y.m (.c .n) ?_
 refine Y.sk .g2 ?_
 refine Y.dk rfl rfl .g2 (bN (c:=aj+(5 * j)) rfl (.t .z) (.t .g1) (wr (by omega) (by omega) (by omega))) ?_
 refine Y.dk rfl rfl .g2 (xT (c:=Int.tmod (aj+(5 * j)) 20) rfl (.t .z) .c (by omega) rfl) ?_
 refine Y.e (aC rfl rfl) rfl (by decide) rfl (aQ (cs:= [.int .i64 (Int.tmod (aj+(5 * j)) 20)]) rfl eF (inz gI) (by decide) (pv1 (.t .z)) rfl rfl (by decide) rfl rfl) ?_
 rintro _ _ ⟨g42,rfl,rfl⟩
 refine Y.sk .g3 ?_
 refine Y.add (c:=aH (gS .i64) (Int.tmod (aj+(5 * j)) 20) [.int .i64 (Int.tmod (aj+(5 * j)) 20)]) (fun _ _=>⟨rfl,trivial⟩) ?_
 refine Y.e (aC rfl rfl) rfl (by decide) rfl (dK rfl eF gI rfl (.t .g7) (.t .z) (.c .g3 (.c .g1 (.c .z .n))) (by first | omega |(simp <;> omega)) (by first | omega |(simp <;> omega))) ?_
 rintro _ _ rfl
 refine Y.h (WS.a .z) ?_
 rintro⟨au,av,rfl,a2,a3,a4⟩
 refine Y.sk .g2 ?_
 refine Y.df rfl rfl .g2 .g16 dH ?_
 refine Y.es (aC rfl rfl) rfl (es1 (off:=3) rfl aEz (.t .z) (.t .g1) rfl rfl .g2 rfl .g3) ?_
 refine Y.sl rfl ?_
 refine Y.w ?_
 refine Y.af (by kernel_rfl) ?_
 refine Y.ab (Y.g (Y.region (Y.mv rfl .g16 ?_)))
 refine Y.ql rfl (bN (c:=j+1) rfl (.t .z) .c (wr (by omega) (by omega) (by omega))) ?_
 refine Y.er (.s16 .g2) (Y.as rfl .z (Y.nil ?_))
 refine Y.ae (au,av,j+1,(z+1),B++ [Int.tmod (aj+(5 * j)) 20]) ⟨by omega,by omega,(by simp only [List.length_append,List.length_cons,List.length_nil];omega),fun b hb=>(List.mem_append.1 hb).elim (hBn b) (fun hb=>by obtain rfl:=List.mem_singleton.1 hb;first |(have ht:=jP (n:=20) (by assumption) (by omega);omega) |(refine⟨(jP (by omega) (by omega)).1,?_⟩;have ht:=fun x (hx:(0:Int)≤x)=>(jP (x:=x) (n:=20) hx (by omega)).2;exact Int.le_of_lt_add_one (ht _ (by omega))))⟩ (by first | omega |(dsimp only;omega)) (.c .z (.c (.s16 .g3) (.c (.s16 .g4) (.c (.s16 .g5) .n)))) (fun _ h=>h.sel (.c .g1 (.c .z (.c .z (.c .z .n)))))
 refine Y.exit (Y.y (Y.y (Y.ag (Y.g (Y.seq (Y.region (Y.ql rfl (qW rfl fH (.t .g6) .g1 aT) ?_)))))))
 refine Y.es (aE rfl) rfl (esW rfl (.t .g8) (.t .z) .g3 aT rfl rfl) ?_
 refine Y.nt (Y.ret ?_)
 refine Y.add (c:=aH dU [] [.slice none 0 0]) (fun w S=>aL w S none) ?_
 refine Y.i (cU rfl .g8 fH .g1 aT) (.c .g2 (.c .z (.c .g2 .n))) ?_
 exact⟨⟨1,1+ak,ar,B,[]⟩,_,_,_,⟨by first | omega |(dsimp only;omega) |(simp <;> omega),by first | omega |(dsimp only;omega) |(simp <;> omega),by first | exact hEn |(intro e he;simp at he;done),by first | exact hBn |(intro b hb;simp at hb;done),by omega,by omega⟩,rfl,rfl⟩

theorem aOv {w0:World}{S0:Bs}{g0 e0 s0:Nat}{ab:List Value}{cd:List UInt8}{Ac:Option Addr}{cc:Nat} (hcd:dD.ro w0 (FF w0 S0) cd [.slice Ac cd.length cc]) {a:Int} (hs:cI [bV g0 e0 s0 1 ((.slice Ac cd.length cc) :: (.int .i64 a) :: ab)] w0 S0) (ha:0≤a∧a≤980000):
    Calls Tryz.prog 58 #[.pointer (some ⟨g0,0,none⟩)] w0 (aI w0 S0 (fun r l=>∃(x:aF) (v0_ v1_:Value) (u:Int),(x.blocks.length≤11∧x.ents.length≤6∧a≤u∧u≤a+60)∧r= .agg #[.int .i64 x.kind,.int .i64 x.links,.int .i64 x.size,v0_,v1_]∧l= [aH bK x.blocks [v0_],aH dU x.ents [v1_],bV g0 e0 s0 1 (.slice Ac cd.length cc :: .int .i64 u :: ab)])):=by
 obtain⟨hlc,hmc,hbc⟩:=nA hcd
 refine Y.enter (N:=50) Tryz.func58 rfl rfl (by simp) [(0,.pointer (some ⟨g0,0,none⟩))] (by simp) hs ?_
 refine Y.seq (Y.region ?_)
 refine Y.el rfl (bB rfl sX rfl rfl) ?_
 rintro _ _ ⟨g2,rfl,rfl⟩
 refine Y.nt (Y.seq (Y.region (Y.mv rfl .g1 ?_)))
 refine Y.cl rfl rfl Tryz.func32 rfl rfl (bG (.t .z)) (.c .g1 .n) (fun _ _ hs tr=>aLf (tr.ctx hcd) hs (by omega)) ?_
 rintro _ _ ⟨aa,v5,v7,u4,ap,rfl,rfl⟩
 refine Y.m (.c (.c (.c .n))) ?_
 refine Y.h (WS.a .z) ?_
 rintro⟨bq,br,rfl,a6,a7,a8⟩
 refine Y.h (WS.a .g1) ?_
 rintro⟨a9,ba,rfl,aq,ar,au⟩
 refine Y.el rfl (bB rfl sX rfl rfl) ?_
 rintro _ _ ⟨g11,rfl,rfl⟩
 refine Y.es (aE rfl) rfl (esW rfl (.t .z) (.t .g1) .z aT rfl rfl) ?_
 refine Y.nt (Y.seq (Y.seq (Y.region (Y.mv rfl .g4 ?_))))
 refine Y.cl rfl rfl Tryz.func30 rfl rfl (aS (.t .z) .c) (.c .g3 .n) (fun _ _ hs tr=>mV (tr.ctx hcd) _ hs (by omega) (by omega)) ?_
 rintro _ _ ⟨bs,h0m12,h1m12,rfl,rfl⟩
 refine Y.m (.c .n) ?_
 refine Y.nt (Y.block (Y.seq (Y.region (Y.ql rfl (bU rfl (.t .z) .c) (Y.as rfl .z (Y.nt ?_))))))
 refine Y.u (.t .z) (fun bb=> ?_) (fun bb=> ?_)
 refine Y.region (Y.mv rfl .g8 ?_)
 refine Y.el rfl (aQ (ps:= [(0,.int .i64 (-1)),(1,.int .i64 3),(2,.int .i64 0),(3,.int .i64 1),(4,.int .i64 2)]) (cs:= [.int .i64 (-1),.int .i64 3,.int .i64 0,.int .i64 1,.int .i64 2]) rfl eF (inz gI) (by decide) (by intro act hact;simp only [List.map_toArray,List.map_cons,List.map_nil,(show Val _ _ _ from .c) act hact,(show Val _ _ _ from .c) act hact,(show Val _ _ _ from .c) act hact,(show Val _ _ _ from .c) act hact,(show Val _ _ _ from .c) act hact]) rfl rfl (by decide) rfl rfl) ?_
 rintro _ _ ⟨g14,rfl,rfl⟩
 refine Y.ad (c:=aH bK ([(-1),3,0,1,2]:(List Int)) [.slice (some ⟨g14,0,none⟩) 5 5]) (.c .z .n) (fun w S h=>fS (xs:=([(-1),3,0,1,2]:(List Int))) h rfl (by simp) (by omega) (by omega)) ?_
 refine Y.cl rfl rfl Tryz.func53 rfl rfl (aS (.t .g1) (.t .z)) (.c .g1 .n) (fun _ _ hs tr=>tQ (tr.ctx hcd) (tr.own .z) hs (by omega) (by simp)) ?_
 rintro _ _ ⟨bc,aj,rfl,rfl⟩
 refine Y.m (.c .n) ?_
 simp only [List.mem_cons,List.not_mem_nil,or_false] at aj
 refine Y.fa rfl .g7 bS ?_
 refine Y.es (aE rfl) rfl (es1 (off:=0) rfl jO (.t .z) (.t .g1) rfl rfl .g2 rfl .z) ?_
 refine Y.nil (Y.ab (Y.g (Y.seq (Y.region (Y.ql rfl (qW rfl fH (.t .g8) .z aT) ?_)))))
 refine Y.es (aE rfl) rfl (esW rfl (.t .g12) (.t .z) .g5 aT rfl rfl) ?_
 refine Y.nt (Y.ret ?_)
 refine Y.i (cU rfl .g12 fH .z aT) (.c .g4 (.c .g4 (.c .g2 .n))) ?_
 exact⟨⟨bc,aa.links,aa.size,aa.blocks,aa.ents⟩,_,_,_,⟨by first | omega |(dsimp only;omega) |(simp <;> omega),by first | omega |(dsimp only;omega) |(simp <;> omega),by omega,by omega⟩,rfl,rfl⟩
 refine Y.seq (Y.region (Y.ql rfl (bU rfl (.t .g2) .c) (Y.as rfl .z (Y.nt ?_))))
 refine Y.u (.t .z) (fun bd=> ?_) (fun bd=> ?_)
 refine Y.region (Y.mv rfl .g10 ?_)
 refine Y.el rfl (aQ (cs:= [.int .i64 0,.int .i64 61,.int .i64 1]) rfl eF (inz gI) (by decide) (pv3 .c .c .c) rfl rfl (by decide) rfl rfl) ?_
 rintro _ _ ⟨g18,rfl,rfl⟩
 refine Y.ad (c:=aH bK ([0,61,1]:(List Int)) [.slice (some ⟨g18,0,none⟩) 3 3]) (.c .z .n) (fun w S h=>fS (xs:=([0,61,1]:(List Int))) h rfl (by simp) (by omega) (by omega)) ?_
 refine Y.cl rfl rfl Tryz.func53 rfl rfl (aS (.t .g1) (.t .z)) (.c .g1 .n) (fun _ _ hs tr=>tQ (tr.ctx hcd) (tr.own .z) hs (by omega) (by simp)) ?_
 rintro _ _ ⟨be,ak,rfl,rfl⟩
 refine Y.m (.c .n) ?_
 simp only [List.mem_cons,List.not_mem_nil,or_false] at ak
 refine Y.fa rfl .g9 iZ ?_
 refine Y.es (aE rfl) rfl (es1 (off:=1) rfl jO (.t .z) (.t .g1) rfl rfl .g2 rfl .g1) ?_
 refine Y.nil (Y.ab (Y.g (Y.seq (Y.region (Y.ql rfl (qW rfl fH (.t .g10) .z aT) ?_)))))
 refine Y.es (aE rfl) rfl (esW rfl (.t .g14) (.t .z) .g5 aT rfl rfl) ?_
 refine Y.nt (Y.ret ?_)
 refine Y.i (cU rfl .g14 fH .z aT) (.c .g4 (.c .g4 (.c .g2 .n))) ?_
 exact⟨⟨aa.kind,be,aa.size,aa.blocks,aa.ents⟩,_,_,_,⟨by first | omega |(dsimp only;omega) |(simp <;> omega),by first | omega |(dsimp only;omega) |(simp <;> omega),by omega,by omega⟩,rfl,rfl⟩
 refine Y.seq (Y.region (Y.ql rfl (bU rfl (.t .g4) .c) (Y.as rfl .z (Y.nt ?_))))
 refine Y.u (.t .z) (fun bf=> ?_) (fun bf=> ?_)
 refine Y.region (Y.mv rfl .g12 ?_)
 refine Y.el rfl (aQ (cs:= [.int .i64 (-1),.int .i64 33,.int .i64 8]) rfl eF (inz gI) (by decide) (pv3 .c .c .c) rfl rfl (by decide) rfl rfl) ?_
 rintro _ _ ⟨g22,rfl,rfl⟩
 refine Y.ad (c:=aH bK ([(-1),33,8]:(List Int)) [.slice (some ⟨g22,0,none⟩) 3 3]) (.c .z .n) (fun w S h=>fS (xs:=([(-1),33,8]:(List Int))) h rfl (by simp) (by omega) (by omega)) ?_
 refine Y.cl rfl rfl Tryz.func53 rfl rfl (aS (.t .g1) (.t .z)) (.c .g1 .n) (fun _ _ hs tr=>tQ (tr.ctx hcd) (tr.own .z) hs (by omega) (by simp)) ?_
 rintro _ _ ⟨bg,al,rfl,rfl⟩
 refine Y.m (.c .n) ?_
 simp only [List.mem_cons,List.not_mem_nil,or_false] at al
 refine Y.fa rfl .g11 gU ?_
 refine Y.es (aE rfl) rfl (es1 (off:=2) rfl jO (.t .z) (.t .g1) rfl rfl .g2 rfl .g2) ?_
 refine Y.nil (Y.ab (Y.g (Y.seq (Y.region (Y.ql rfl (qW rfl fH (.t .g12) .z aT) ?_)))))
 refine Y.es (aE rfl) rfl (esW rfl (.t .g16) (.t .z) .g5 aT rfl rfl) ?_
 refine Y.nt (Y.ret ?_)
 refine Y.i (cU rfl .g16 fH .z aT) (.c .g4 (.c .g4 (.c .g2 .n))) ?_
 exact⟨⟨aa.kind,aa.links,bg,aa.blocks,aa.ents⟩,_,_,_,⟨by first | omega |(dsimp only;omega) |(simp <;> omega),by first | omega |(dsimp only;omega) |(simp <;> omega),by omega,by omega⟩,rfl,rfl⟩
 refine Y.seq (Y.region (Y.ql rfl (bU rfl (.t .g6) .c) (Y.as rfl .z (Y.nt ?_))))
 refine Y.u (.t .z) (fun bh=> ?_) (fun bh=> ?_)
 refine Y.sel (.c .z (.c .g1 (.c .g1 (.c .z (.c .z .n))))) ?_
 refine Y.dr .g3 8 fR ?_
 refine Y.sc (qs 0 3++ [(3,false),(4,false),(5,false),(6,false),(7,true),(8,false)]) (by kernel_rfl) ?_
 refine Y.df rfl rfl .g3 .g10 dH (Y.dl rfl rfl .g3 eZ .z .z (Y.dm rfl rfl .g3 .g16 ?_))
 refine Y.e (aC rfl rfl) rfl (by decide) rfl (aQ (cs:= [.int .i64 0,.int .i64 20,.int .i64 (-1)]) rfl eF (inz gI) (by decide) (pv3 .c .c .c) rfl rfl (by decide) rfl rfl) ?_
 rintro _ _ ⟨g26,rfl,rfl⟩
 refine Y.sk .g4 ?_
 refine Y.ad (c:=aH bK ([0,20,(-1)]:(List Int)) [.slice (some ⟨g26,0,none⟩) 3 3]) (.c .z .n) (fun w S h=>fS (xs:=([0,20,(-1)]:(List Int))) h rfl (by simp) (by omega) (by omega)) ?_
 refine Y.call (aC rfl rfl) rfl (by decide) rfl (bE rfl Tryz.func53 rfl rfl (aS (.t .g1) (.t .z))) (.c .g1 .n) (fun _ _ hs tr=>tQ (tr.ctx hcd) (tr.own .z) hs (by omega) (by simp)) ?_
 rintro _ _ ⟨ai,am,rfl,rfl⟩
 refine Y.m (.c .n) ?_
 simp only [List.mem_cons,List.not_mem_nil,or_false] at am
 refine Y.sk .g4 ?_
 refine Y.e (aC rfl rfl) rfl (by decide) rfl (aQ (cs:= [.int .i64 ai]) rfl eF (inz gI) (by decide) (pv1 (.t .z)) rfl rfl (by decide) rfl rfl) ?_
 rintro _ _ ⟨g29,rfl,rfl⟩
 refine Y.sk .g5 ?_
 refine Y.add (c:=aH (gS .i64) ai [.int .i64 ai]) (fun _ _=>⟨rfl,trivial⟩) ?_
 refine Y.e (aC rfl rfl) rfl (by decide) rfl (dK rfl eF gI rfl (.t .g4) (.t .z) (.c .g4 (.c .g1 (.c .z .n))) (by first | omega |(simp <;> omega)) (by first | omega |(simp <;> omega))) ?_
 rintro _ _ rfl
 refine Y.h (WS.a .z) ?_
 rintro⟨bi,bj,rfl,av,aw,ax⟩
 refine Y.sk .g4 ?_
 refine Y.df rfl rfl .g4 (.s16 .g1) dH ?_
 refine Y.es (aC rfl rfl) rfl (es1 (off:=3) rfl aEz (.t .z) (.t .g1) rfl rfl .g4 rfl .g3) ?_
 refine Y.sl rfl ?_
 refine Y.w ?_
 refine Y.af (by kernel_rfl) ?_
 refine Y.ab (Y.g (Y.seq (Y.region (Y.ql rfl (qW rfl fH (.t (.s16 .g2)) .z aT) ?_))))
 refine Y.es (aE rfl) rfl (esW rfl (.t (.s16 .g6)) (.t .z) .g5 aT rfl rfl) ?_
 refine Y.nt (Y.ret ?_)
 refine Y.i (cU rfl (.s16 .g6) fH .z aT) (.c .g2 (.c .g4 (.c .g2 .n))) ?_
 exact⟨⟨aa.kind,aa.links,aa.size,aa.blocks++ [ai],aa.ents⟩,_,_,_,⟨by first | omega |(dsimp only;omega) |(simp <;> omega),by first | omega |(dsimp only;omega) |(simp <;> omega),by omega,by omega⟩,rfl,rfl⟩
 refine Y.seq (Y.region (Y.ql rfl (bU rfl (.t .g8) .c) (Y.as rfl .z (Y.nt ?_))))
 refine Y.u (.t .z) (fun bk=> ?_) (fun bk=> ?_)
 refine Y.sel (.c .z (.c .g1 (.c .g1 (.c .z (.c .z .n))))) ?_
 refine Y.dr .g3 11 fR ?_
 refine Y.sc (qs 0 3++ [(4,true)]) (by kernel_rfl) ?_
 refine Y.df rfl rfl .g3 .g12 bL (Y.dl rfl rfl .g3 dX .z .z (Y.dm rfl rfl .g3 (.s16 .g2) (Y.dm rfl rfl .g3 (.s16 .g3) (Y.w ?_))))
 refine Y.ar (i:=3) (j:=5) (by kernel_rfl) ?_ ?_
 refine Y.call (aC rfl rfl) rfl (by decide) rfl (bE rfl Tryz.func89 rfl rfl (bG (.t .g1))) (.c .z .n) (fun _ _ hs tr=>aKl (tr.ctx hcd) hs (by omega)) ?_
 rintro _ _ ⟨ac,ag,rfl,rfl⟩
 refine Y.m (.c .n) ?_
 have ay:=(oU ag).1
 refine Y.sk .g3 ?_
 refine Y.w ?_
 refine Y.sc [(5,false),(6,false),(7,true),(8,false),(9,false),(10,true),(11,false)] (by kernel_rfl) ?_
 refine Y.e (aC rfl rfl) rfl (by decide) rfl (aQ (cs:= [.int .i64 0,.int .i64 10]) rfl eF (inz gI) (by decide) (pv2 .c .c) rfl rfl (by decide) rfl rfl) ?_
 rintro _ _ ⟨g35,rfl,rfl⟩
 refine Y.sk .g4 ?_
 refine Y.ad (c:=aH bK ([0,10]:(List Int)) [.slice (some ⟨g35,0,none⟩) 2 2]) (.c .z .n) (fun w S h=>fS (xs:=([0,10]:(List Int))) h rfl (by simp) (by omega) (by omega)) ?_
 refine Y.call (aC rfl rfl) rfl (by decide) rfl (bE rfl Tryz.func53 rfl rfl (aS (.t .g2) (.t .z))) (.c .g1 .n) (fun _ _ hs tr=>tQ (tr.ctx hcd) (tr.own .z) hs (by omega) (by simp)) ?_
 rintro _ _ ⟨ad,an,rfl,rfl⟩
 refine Y.m (.c .n) ?_
 simp only [List.mem_cons,List.not_mem_nil,or_false] at an
 refine Y.sk .g4 ?_
 refine Y.dk rfl rfl .g4 (aW (cs:= [.string ac,.int .i64 ad]) rfl uJ (pv2 (.t .g2) (.t .z)) rfl) ?_
 refine Y.e (aC rfl rfl) rfl (by decide) rfl (aQ (cs:= [.string ac,.int .i64 ad]) rfl dP (inz eI) (by decide) (pv1 (.t .z)) rfl rfl (by decide) rfl rfl) ?_
 rintro _ _ ⟨g38,rfl,rfl⟩
 refine Y.sk .g5 ?_
 refine Y.ad (c:=aH kC (⟨ac,ad⟩:bO) [.string ac,.int .i64 ad]) .n (fun w S h=>iO (⟨ac,ad⟩:bO) h (by first | assumption | omega |(dsimp only;omega))) ?_
 refine Y.e (aC rfl rfl) rfl (by decide) rfl (dK rfl dP eI rfl (.t .g7) (.t .z) (.c .g5 (.c .g1 (.c .z .n))) (by first | omega |(simp <;> omega)) (by first | omega |(simp <;> omega))) ?_
 rintro _ _ rfl
 refine Y.h (WS.a .z) ?_
 rintro⟨bm,bn,rfl,az,a0,a1⟩
 refine Y.sk .g4 ?_
 refine Y.df rfl rfl .g4 (.s16 .g6) bL ?_
 refine Y.es (aC rfl rfl) rfl (es1 (off:=4) rfl qO (.t .z) (.t .g1) rfl rfl .g4 rfl .g4) ?_
 refine Y.sl rfl ?_
 refine Y.w ?_
 refine Y.af (by kernel_rfl) ?_
 refine Y.ab (Y.g (Y.seq (Y.region (Y.ql rfl (qW rfl fH (.t (.s16 .g7)) .z aT) ?_))))
 refine Y.es (aE rfl) rfl (esW rfl (.t (.s16 .g11)) (.t .z) .g5 aT rfl rfl) ?_
 refine Y.nt (Y.ret ?_)
 refine Y.i (cU rfl (.s16 .g11) fH .z aT) (.c .g5 (.c .g2 (.c .g2 .n))) ?_
 exact⟨⟨aa.kind,aa.links,aa.size,aa.blocks,aa.ents++ [(⟨ac,ad⟩:bO)]⟩,_,_,_,⟨by first | omega |(dsimp only;omega) |(simp <;> omega),by first | omega |(dsimp only;omega) |(simp <;> omega),by omega,by omega⟩,rfl,rfl⟩
 refine Y.e (aC rfl rfl) rfl (by decide) rfl (aQ (cs:= [.int .i64 0,.int .i64 10]) rfl eF (inz gI) (by decide) (pv2 .c .c) rfl rfl (by decide) rfl rfl) ?_
 rintro _ _ ⟨g41,rfl,rfl⟩
 refine Y.sk .g4 ?_
 refine Y.w ?_
 refine Y.sc [(3,false),(6,false),(7,true),(8,false),(9,false),(10,true),(11,false)] (by kernel_rfl) ?_
 refine Y.call (aC rfl rfl) rfl (by decide) rfl (bE rfl Tryz.func89 rfl rfl (bG (.t .g2))) (.c .g1 .n) (fun _ _ hs tr=>aKl (tr.ctx hcd) hs (by omega)) ?_
 rintro _ _ ⟨ae,ah,rfl,rfl⟩
 refine Y.m (.c .n) ?_
 have a2:=(oU ah).1
 refine Y.sk .g4 ?_
 refine Y.ad (c:=aH bK ([0,10]:(List Int)) [.slice (some ⟨g41,0,none⟩) 2 2]) (.c .g1 .n) (fun w S h=>fS (xs:=([0,10]:(List Int))) h rfl (by simp) (by omega) (by omega)) ?_
 refine Y.call (aC rfl rfl) rfl (by decide) rfl (bE rfl Tryz.func53 rfl rfl (aS (.t .g2) (.t .g1))) (.c .g1 .n) (fun _ _ hs tr=>tQ (tr.ctx hcd) (tr.own .z) hs (by omega) (by simp)) ?_
 rintro _ _ ⟨af,ao,rfl,rfl⟩
 refine Y.m (.c .n) ?_
 simp only [List.mem_cons,List.not_mem_nil,or_false] at ao
 refine Y.sk .g4 ?_
 refine Y.dk rfl rfl .g4 (aW (cs:= [.string ae,.int .i64 af]) rfl uJ (pv2 (.t .g1) (.t .z)) rfl) ?_
 refine Y.e (aC rfl rfl) rfl (by decide) rfl (aQ (cs:= [.string ae,.int .i64 af]) rfl dP (inz eI) (by decide) (pv1 (.t .z)) rfl rfl (by decide) rfl rfl) ?_
 rintro _ _ ⟨g46,rfl,rfl⟩
 refine Y.sk .g5 ?_
 refine Y.ad (c:=aH kC (⟨ae,af⟩:bO) [.string ae,.int .i64 af]) .n (fun w S h=>iO (⟨ae,af⟩:bO) h (by first | assumption | omega |(dsimp only;omega))) ?_
 refine Y.e (aC rfl rfl) rfl (by decide) rfl (dK rfl dP eI rfl (.t .g7) (.t .z) (.c .g5 (.c .g1 (.c .z .n))) (by first | omega |(simp <;> omega)) (by first | omega |(simp <;> omega))) ?_
 rintro _ _ rfl
 refine Y.h (WS.a .z) ?_
 rintro⟨bo,bp,rfl,a3,a4,a5⟩
 refine Y.sk .g4 ?_
 refine Y.df rfl rfl .g4 (.s16 .g6) bL ?_
 refine Y.es (aC rfl rfl) rfl (es1 (off:=4) rfl qO (.t .z) (.t .g1) rfl rfl .g4 rfl .g4) ?_
 refine Y.sl rfl ?_
 refine Y.w ?_
 refine Y.af (by kernel_rfl) ?_
 refine Y.ab (Y.g (Y.seq (Y.region (Y.ql rfl (qW rfl fH (.t (.s16 .g7)) .z aT) ?_))))
 refine Y.es (aE rfl) rfl (esW rfl (.t (.s16 .g11)) (.t .z) .g5 aT rfl rfl) ?_
 refine Y.nt (Y.ret ?_)
 refine Y.i (cU rfl (.s16 .g11) fH .z aT) (.c .g5 (.c .g2 (.c .g2 .n))) ?_
 exact⟨⟨aa.kind,aa.links,aa.size,aa.blocks,aa.ents++ [(⟨ae,af⟩:bO)]⟩,_,_,_,⟨by first | omega |(dsimp only;omega) |(simp <;> omega),by first | omega |(dsimp only;omega) |(simp <;> omega),by omega,by omega⟩,rfl,rfl⟩
 refine Y.skip (Y.ab (Y.g (Y.seq (Y.region (Y.ql rfl (qW rfl fH (.t .g12) .g1 aT) ?_)))))
 refine Y.es (aE rfl) rfl (esW rfl (.t .g16) (.t .z) .g4 aT rfl rfl) ?_
 refine Y.nt (Y.ret ?_)
 refine Y.i (cU rfl .g16 fH .z aT) (.c .g3 (.c .g3 (.c .g1 .n))) ?_
 exact⟨⟨aa.kind,aa.links,aa.size,aa.blocks,aa.ents⟩,_,_,_,⟨by first | omega |(dsimp only;omega) |(simp <;> omega),by first | omega |(dsimp only;omega) |(simp <;> omega),by omega,by omega⟩,rfl,rfl⟩

end Go.Proofs.YtmejbfmhaoilmaaGreatDoor

/- What is proved: contracts of functions, one a function. No condition. -/
import Derived.Test.YtmejbfmhaoilmaaGreatBase1
import Derived.Test.YtmejbfmhaoilmaaGreatW50
import Derived.Test.YtmejbfmhaoilmaaGreatBase2
namespace Go.Proofs.YtmejbfmhaoilmaaGreat
open Go Go.RowKit
set_option linter.unusedVariables false
set_option linter.unusedSimpArgs false
set_option maxHeartbeats 1000000
set_option maxRecDepth 20000
theorem aKh {w0:World}{S0:Bs}{g0 e0 s0:Nat}{ac:List Value}{cd:List UInt8}{Ac:Option Addr}{cc:Nat} (hcd:cX.ro w0 (FF w0 S0) cd [.slice Ac cd.length cc]) {a:Int} (hs:cB [cM g0 e0 s0 1 ((.slice Ac cd.length cc) :: (.int .i64 a) :: ac)] w0 S0) (ha:0≤a∧a≤990000):
    Calls Tryz.prog 93 #[.pointer (some ⟨g0,0,none⟩)] w0 (aJ w0 S0 (fun r l=>∃(x:aF) (v0_ v1_:Value) (u:Int),(x.blocks.length≤10∧x.ents.length≤5∧(∀e,e∈x.ents→e.name.size≤4)∧(∀b,b∈x.blocks→0≤b∧b≤19)∧a≤u∧u≤a+40)∧r= .agg #[.int .i64 x.kind,.int .i64 x.links,.int .i64 x.size,v0_,v1_]∧l= [aG bY x.blocks [v0_],aG cP x.ents [v1_],cM g0 e0 s0 1 (.slice Ac cd.length cc :: .int .i64 u :: ac)])):=by
 obtain⟨hlc,hmc,hbc⟩:=nG hcd
 refine Y.enter (N:=64) Tryz.func93 rfl rfl (by simp) [(0,.pointer (some ⟨g0,0,none⟩))] (by simp) hs ?_
 refine Y.seq (Y.region ?_)
 refine Y.el rfl (bL rfl tB rfl rfl) ?_
 rintro _ _ ⟨g2,rfl,rfl⟩
 refine Y.nt (Y.seq (Y.seq (Y.region (Y.mv rfl .g1 ?_))))
 refine Y.cl rfl rfl Tryz.func42 rfl rfl (aX (.t .z) .c) (.c .g1 .n) (fun _ _ hs tr=>mG (tr.ctx hcd) _ hs (by omega) (by omega)) ?_
 rintro _ _ ⟨m3,h0m3,h1m3,rfl,rfl⟩
 refine Y.m (.c .n) ?_
 refine Y.nt (Y.block (Y.seq (Y.region (Y.ql rfl (bZ rfl (.t .z) .c) (Y.as rfl .z (Y.nt ?_))))))
 refine Y.u (.t .z) (fun b4=> ?_) (fun b4=> ?_)
 refine Y.seq (Y.region (Y.ql rfl (aZ (cs:= [.int .i64 0,.int .i64 0,.int .i64 0,.slice none 0 0,.slice none 0 0]) rfl rX pv0 rfl) ?_))
 refine Y.es (aD rfl) rfl (esW rfl (.t .g5) (.t .z) .g1 aU rfl rfl) ?_
 refine Y.nt (Y.ret (Y.y (Y.r ?_)))
 refine Y.add (c:=aG bY [] [.slice none 0 0]) (fun w S=>aN w S none) ?_
 refine Y.add (c:=aG cP [] [.slice none 0 0]) (fun w S=>aN w S none) ?_
 refine Y.i (dD rfl .g5 fG .g2 aU) (.c .g1 (.c .z (.c .g1 .n))) ?_
 exact⟨⟨0,0,0,[],[]⟩,_,_,_,⟨by first | omega |(dsimp only;omega) |(simp <;> omega),by first | omega |(dsimp only;omega) |(simp <;> omega),by first | exact hEn |(intro e he;simp at he;done),by first | exact hBn |(intro b hb;simp at hb;done),by omega,by omega⟩,rfl,rfl⟩
 refine Y.seq (Y.seq (Y.region (Y.ql rfl (bZ rfl (.t .g2) .c) (Y.as rfl .z (Y.nt ?_)))))
 refine Y.u (.t .z) (fun b7=> ?_) (fun b7=> ?_)
 refine Y.skip (Y.g ?_)
 refine Y.u (.t .z) (fun b8=> ?_) (fun b8=> ?_)
 refine Y.seq (Y.region (Y.ql rfl (aZ (cs:= [.int .i64 2,.int .i64 0,.int .i64 0,.slice none 0 0,.slice none 0 0]) rfl rX (pv1 .c) rfl) ?_))
 refine Y.el rfl (bL rfl tB rfl rfl) ?_
 rintro _ _ ⟨g9,rfl,rfl⟩
 refine Y.es (aD rfl) rfl (esW rfl (.t .z) (.t .g1) .z aU rfl rfl) ?_
 refine Y.nt (Y.seq (Y.region ?_))
 refine Y.el rfl (aS (ps:= [(0,.string (⟨#[97]⟩)),(1,.string (⟨#[97,98]⟩)),(2,.string (⟨#[98]⟩)),(3,.string (⟨#[99]⟩)),(4,.string (⟨#[104,97,108,108]⟩))]) (cs:= [.string (⟨#[97]⟩),.string (⟨#[97,98]⟩),.string (⟨#[98]⟩),.string (⟨#[99]⟩),.string (⟨#[104,97,108,108]⟩)]) rfl hZ (inz lQ) (by decide) (by intro act hact;simp only [List.map_toArray,List.map_cons,List.map_nil,(show Val _ _ _ from .c) act hact,(show Val _ _ _ from .c) act hact,(show Val _ _ _ from .c) act hact,(show Val _ _ _ from .c) act hact,(show Val _ _ _ from .c) act hact]) rfl rfl (by decide) rfl rfl) ?_
 rintro _ _ ⟨g10,rfl,rfl⟩
 refine Y.as rfl .z (Y.nt (Y.seq (Y.seq (Y.region (Y.ql rfl (aA rfl .c) (Y.nt ?_))))))
 refine Y.block ?_
 refine Y.v (c:=aG fB ([⟨#[97]⟩,⟨#[97,98]⟩,⟨#[98]⟩,⟨#[99]⟩,⟨#[104,97,108,108]⟩]:(List ByteArray)) [.slice (some ⟨g10,0,none⟩) 5 5]) (.c .z .n) (fun w S h=>gK (xs:=([⟨#[97]⟩,⟨#[97,98]⟩,⟨#[98]⟩,⟨#[99]⟩,⟨#[104,97,108,108]⟩]:(List ByteArray))) h rfl (by decide) (by omega) (by omega)) ?_
 refine Y.add (c:=aG cP [] [.slice none 0 0]) (fun w S=>aN w S none) ?_
 refine Y.aj (γ:=Nat×(Option Addr)×Nat×Int×(List aQ)) (fun⟨j,aa,ab,z,E⟩=> [(5,.int .i64 (j:Int)),(4,.slice (some ⟨g10,0,none⟩) 5 5),(3,.pointer (some ⟨g9,0,none⟩)),(2,.pointer (some ⟨g2,0,none⟩)),(0,.pointer (some ⟨g0,0,none⟩))]) (fun⟨j,aa,ab,z,E⟩=> [aG cP E [.slice aa E.length ab],aG fB ([⟨#[97]⟩,⟨#[97,98]⟩,⟨#[98]⟩,⟨#[99]⟩,⟨#[104,97,108,108]⟩]:(List ByteArray)) [.slice (some ⟨g10,0,none⟩) 5 5],cM g9 44 5 1 [.int .i64 2,.int .i64 0,.int .i64 0,.slice none 0 0,.slice aa E.length ab],cM g0 e0 s0 1 ((.slice Ac cd.length cc) :: (.int .i64 z) :: ac),cM g2 44 5 1 [.int .i64 0,.int .i64 0,.int .i64 0,.slice none 0 0,.slice none 0 0]]) (fun⟨j,aa,ab,z,E⟩=>j≤5∧(a≤z∧z≤a+1+2 * j)∧E.length≤j∧∀e,e∈E→e.name.size≤4) (fun⟨j,aa,ab,z,E⟩=>5 - j) (0,none,0,(a+1),[]) ⟨Nat.zero_le _,by omega,Nat.le_refl _,fun e he=>absurd he (by simp)⟩ (.c .z (.c .g1 (.c .g3 (.c .g11 (.c .g12 .n))))) (fun _ h=>h.sel (.c .z (.c .z (.c .z (.c .z (.c .z .n)))))) ?_
 rintro⟨j,aa,ab,z,E⟩ ⟨hj,hz,hE,hEn⟩
 refine Y.seq (Y.seq (Y.region (Y.mv rfl .z (Y.mv rfl .g2 (Y.ql rfl (bM rfl hZ (.t .z)) (Y.ql rfl (dJ rfl (.t .g2) (.t .z)) (Y.nt ?_)))))))
 refine Y.u (.t .z) (fun a5=> ?_) (fun a5=> ?_)
 refine Y.skip (Y.g (Y.seq (Y.block (Y.seq (Y.region (Y.mv rfl .g8 ?_))))))
 refine Y.cl rfl rfl Tryz.func87 rfl rfl (aX (.t .z) .c) (.c .g3 .n) (fun _ _ hs tr=>aAo (tr.ctx hcd) _ hs (by omega) (by omega)) ?_
 rintro _ _ ⟨bb,rfl,rfl⟩
 refine Y.m (.c .n) ?_
 refine Y.nt ?_
 refine Y.cond (.t .z) (fun a6=> ?_) (fun a6=> ?_)
 refine Y.dr .g2 12 gG ?_
 refine Y.sc (qs 0 7++ [(7,false),(8,true),(9,false),(10,false),(11,true),(12,false)]) (by kernel_rfl) ?_
 refine Y.df rfl rfl .g2 .g8 bE (Y.dl rfl rfl .g2 dP .z .g1 (Y.dm rfl rfl .g2 .g9 (Y.dm rfl rfl .g2 .g9 ?_)))
 refine Y.dk rfl rfl .g2 (aC (j:=j) rfl hZ tF (.t .g1) (.t .z) rfl (by first | omega |(simp <;> omega))) ?_
 obtain⟨af,al⟩:=aI (xs:=([⟨#[97]⟩,⟨#[97,98]⟩,⟨#[98]⟩,⟨#[99]⟩,⟨#[104,97,108,108]⟩]:(List ByteArray))) (j:=j) (by first | omega |(simp <;> omega))
 refine Y.dk rfl rfl .g2 (aL rfl iR (.t .z) (WS.m .z al)) (Y.dm rfl rfl .g2 .g16 ?_)
 refine Y.call (aE rfl rfl) rfl (by decide) rfl (bS rfl Tryz.func42 rfl rfl (aX (.t .z) .c)) (.c .z .n) (fun _ _ hs tr=>mG (tr.ctx hcd) _ hs (by omega) (by omega)) ?_
 rintro _ _ ⟨ag,h0m17,h1m17,rfl,rfl⟩
 refine Y.m (.c .n) ?_
 refine Y.sk .g2 ?_
 refine Y.dk rfl rfl .g2 (aZ (cs:= [.string af,.int .i64 ag]) rfl pI (pv2 (.t .g2) (.t .z)) rfl) ?_
 refine Y.e (aE rfl rfl) rfl (by decide) rfl (aS (cs:= [.string af,.int .i64 ag]) rfl cZ (inz eF) (by decide) (pv1 (.t .z)) rfl rfl (by decide) rfl rfl) ?_
 rintro _ _ ⟨g18,rfl,rfl⟩
 refine Y.sk .g3 ?_
 refine Y.v (c:=aG gH (⟨af,ag⟩:aQ) [.string af,.int .i64 ag]) .n (fun w S h=>fH (⟨af,ag⟩:aQ) h (by first | assumption | omega |(dsimp only;exact zH _ (List.mem_of_getElem? (by assumption))) | decide)) ?_
 refine Y.e (aE rfl rfl) rfl (by decide) rfl (dU rfl cZ eF rfl (.t .g8) (.t .z) (.c .g3 (.c .g1 (.c .z .n))) (by first | omega |(simp <;> omega)) (by first | omega |(simp <;> omega))) ?_
 rintro _ _ rfl
 refine Y.h (WS.a .z) ?_
 rintro⟨am,an,rfl,aw,ax,ay⟩
 refine Y.sk .g2 ?_
 refine Y.df rfl rfl .g2 (.s16 .g3) bE ?_
 refine Y.es (aE rfl rfl) rfl (es1 (off:=4) rfl nC (.t .z) (.t .g1) rfl rfl .g3 rfl .g4) ?_
 refine Y.sl rfl ?_
 refine Y.aa ?_
 refine Y.ag (by kernel_rfl) ?_
 refine Y.ac (Y.g (Y.region (Y.mv rfl (.s16 .g2) ?_)))
 refine Y.ql rfl (bQ (c:=((j+1:Nat):Int)) rfl (.t .z) .c (wr (by omega) (by omega) (by omega))) ?_
 refine Y.er (.s16 .g4) (Y.as rfl .z (Y.nil ?_))
 refine Y.ae ((j+1),am,an,((z+1)+1),E++ [(⟨af,ag⟩:aQ)]) ⟨by omega,⟨by omega,(by first | omega |(simp <;> omega)),(by first | exact hEn | exact fun e he=>(List.mem_append.1 he).elim (hEn e) (fun he=>by obtain rfl:=List.mem_singleton.1 he;exact sG _ (List.mem_of_getElem? (by assumption))))⟩⟩ (by first | omega |(dsimp only;omega)) (.c .z (.c (.s16 .g5) (.c (.s16 .g6) (.c (.s16 .g7) (.c (.s16 .g8) .n))))) (fun _ h=>h.sel (.c .g1 (.c .g2 (.c .z (.c .z (.c .z .n))))))
 refine Y.skip (Y.ac (Y.g (Y.region (Y.mv rfl .g6 ?_))))
 refine Y.ql rfl (bQ (c:=((j+1:Nat):Int)) rfl (.t .z) .c (wr (by omega) (by omega) (by omega))) ?_
 refine Y.er .g8 (Y.as rfl .z (Y.nil ?_))
 refine Y.ae ((j+1),aa,ab,(z+1),E) ⟨by omega,⟨by omega,(by first | omega |(simp <;> omega)),(by first | exact hEn | exact fun e he=>(List.mem_append.1 he).elim (hEn e) (fun he=>by obtain rfl:=List.mem_singleton.1 he;exact sG _ (List.mem_of_getElem? (by assumption))))⟩⟩ (by first | omega |(dsimp only;omega)) (.c .z (.c .g9 (.c .g10 (.c .g11 (.c .g12 .n))))) (fun _ h=>h.sel (.c .g1 (.c .g1 (.c .g1 (.c .z (.c .z .n))))))
 refine Y.exit (Y.ab (Y.ab (Y.ai (Y.g (Y.seq (Y.region (Y.ql rfl (qW rfl fG (.t .g6) .g2 aU) ?_)))))))
 refine Y.es (aD rfl) rfl (esW rfl (.t .g8) (.t .z) .g4 aU rfl rfl) ?_
 refine Y.nt (Y.ret (Y.y (Y.r ?_)))
 refine Y.add (c:=aG bY [] [.slice none 0 0]) (fun w S=>aN w S none) ?_
 refine Y.i (dD rfl .g8 fG .g1 aU) (.c .z (.c .g1 (.c .g3 .n))) ?_
 exact⟨⟨2,0,0,[],E⟩,_,_,_,⟨by first | omega |(dsimp only;omega) |(simp <;> omega),by first | omega |(dsimp only;omega) |(simp <;> omega),by first | exact hEn |(intro e he;simp at he;done),by first | exact hBn |(intro b hb;simp at hb;done),by omega,by omega⟩,rfl,rfl⟩
 exfalso;first | omega | contradiction
 refine Y.region (Y.ql rfl (bZ rfl (.t .g4) .c) (Y.er .g1 (Y.as rfl .z (Y.nt ?_))))
 refine Y.u (.t .z) (fun a7=> ?_) (fun a7=> ?_)
 refine Y.seq (Y.region (Y.ql rfl (aZ (cs:= [.int .i64 2,.int .i64 0,.int .i64 0,.slice none 0 0,.slice none 0 0]) rfl rX (pv1 .c) rfl) ?_))
 refine Y.el rfl (bL rfl tB rfl rfl) ?_
 rintro _ _ ⟨g23,rfl,rfl⟩
 refine Y.es (aD rfl) rfl (esW rfl (.t .z) (.t .g1) .z aU rfl rfl) ?_
 refine Y.nt (Y.seq (Y.region ?_))
 refine Y.el rfl (aS (ps:= [(0,.string (⟨#[97]⟩)),(1,.string (⟨#[97,98]⟩)),(2,.string (⟨#[98]⟩)),(3,.string (⟨#[99]⟩)),(4,.string (⟨#[104,97,108,108]⟩))]) (cs:= [.string (⟨#[97]⟩),.string (⟨#[97,98]⟩),.string (⟨#[98]⟩),.string (⟨#[99]⟩),.string (⟨#[104,97,108,108]⟩)]) rfl hZ (inz lQ) (by decide) (by intro act hact;simp only [List.map_toArray,List.map_cons,List.map_nil,(show Val _ _ _ from .c) act hact,(show Val _ _ _ from .c) act hact,(show Val _ _ _ from .c) act hact,(show Val _ _ _ from .c) act hact,(show Val _ _ _ from .c) act hact]) rfl rfl (by decide) rfl rfl) ?_
 rintro _ _ ⟨g24,rfl,rfl⟩
 refine Y.as rfl .z (Y.nt (Y.seq (Y.seq (Y.region (Y.ql rfl (aA rfl .c) (Y.nt ?_))))))
 refine Y.block ?_
 refine Y.v (c:=aG fB ([⟨#[97]⟩,⟨#[97,98]⟩,⟨#[98]⟩,⟨#[99]⟩,⟨#[104,97,108,108]⟩]:(List ByteArray)) [.slice (some ⟨g24,0,none⟩) 5 5]) (.c .z .n) (fun w S h=>gK (xs:=([⟨#[97]⟩,⟨#[97,98]⟩,⟨#[98]⟩,⟨#[99]⟩,⟨#[104,97,108,108]⟩]:(List ByteArray))) h rfl (by decide) (by omega) (by omega)) ?_
 refine Y.add (c:=aG cP [] [.slice none 0 0]) (fun w S=>aN w S none) ?_
 refine Y.aj (γ:=Nat×(Option Addr)×Nat×Int×(List aQ)) (fun⟨j,aa,ab,z,E⟩=> [(5,.int .i64 (j:Int)),(4,.slice (some ⟨g24,0,none⟩) 5 5),(3,.pointer (some ⟨g23,0,none⟩)),(2,.pointer (some ⟨g2,0,none⟩)),(0,.pointer (some ⟨g0,0,none⟩))]) (fun⟨j,aa,ab,z,E⟩=> [aG cP E [.slice aa E.length ab],aG fB ([⟨#[97]⟩,⟨#[97,98]⟩,⟨#[98]⟩,⟨#[99]⟩,⟨#[104,97,108,108]⟩]:(List ByteArray)) [.slice (some ⟨g24,0,none⟩) 5 5],cM g23 44 5 1 [.int .i64 2,.int .i64 0,.int .i64 0,.slice none 0 0,.slice aa E.length ab],cM g0 e0 s0 1 ((.slice Ac cd.length cc) :: (.int .i64 z) :: ac),cM g2 44 5 1 [.int .i64 0,.int .i64 0,.int .i64 0,.slice none 0 0,.slice none 0 0]]) (fun⟨j,aa,ab,z,E⟩=>j≤5∧(a≤z∧z≤a+1+2 * j)∧E.length≤j∧∀e,e∈E→e.name.size≤4) (fun⟨j,aa,ab,z,E⟩=>5 - j) (0,none,0,(a+1),[]) ⟨Nat.zero_le _,by omega,Nat.le_refl _,fun e he=>absurd he (by simp)⟩ (.c .z (.c .g1 (.c .g3 (.c .g12 (.c .g13 .n))))) (fun _ h=>h.sel (.c .z (.c .z (.c .z (.c .z (.c .z .n)))))) ?_
 rintro⟨j,aa,ab,z,E⟩ ⟨hj,hz,hE,hEn⟩
 refine Y.seq (Y.seq (Y.region (Y.mv rfl .z (Y.mv rfl .g2 (Y.ql rfl (bM rfl hZ (.t .z)) (Y.ql rfl (dJ rfl (.t .g2) (.t .z)) (Y.nt ?_)))))))
 refine Y.u (.t .z) (fun a8=> ?_) (fun a8=> ?_)
 refine Y.skip (Y.g (Y.seq (Y.block (Y.seq (Y.region (Y.mv rfl .g8 ?_))))))
 refine Y.cl rfl rfl Tryz.func87 rfl rfl (aX (.t .z) .c) (.c .g3 .n) (fun _ _ hs tr=>aAo (tr.ctx hcd) _ hs (by omega) (by omega)) ?_
 rintro _ _ ⟨bc,rfl,rfl⟩
 refine Y.m (.c .n) ?_
 refine Y.nt ?_
 refine Y.cond (.t .z) (fun a9=> ?_) (fun a9=> ?_)
 refine Y.dr .g2 12 gG ?_
 refine Y.sc (qs 0 7++ [(7,false),(8,true),(9,false),(10,false),(11,true),(12,false)]) (by kernel_rfl) ?_
 refine Y.df rfl rfl .g2 .g8 bE (Y.dl rfl rfl .g2 dP .z .g1 (Y.dm rfl rfl .g2 .g9 (Y.dm rfl rfl .g2 .g9 ?_)))
 refine Y.dk rfl rfl .g2 (aC (j:=j) rfl hZ tF (.t .g1) (.t .z) rfl (by first | omega |(simp <;> omega))) ?_
 obtain⟨ah,ao⟩:=aI (xs:=([⟨#[97]⟩,⟨#[97,98]⟩,⟨#[98]⟩,⟨#[99]⟩,⟨#[104,97,108,108]⟩]:(List ByteArray))) (j:=j) (by first | omega |(simp <;> omega))
 refine Y.dk rfl rfl .g2 (aL rfl iR (.t .z) (WS.m .z ao)) (Y.dm rfl rfl .g2 .g16 ?_)
 refine Y.call (aE rfl rfl) rfl (by decide) rfl (bS rfl Tryz.func42 rfl rfl (aX (.t .z) .c)) (.c .z .n) (fun _ _ hs tr=>mG (tr.ctx hcd) _ hs (by omega) (by omega)) ?_
 rintro _ _ ⟨ai,h0m31,h1m31,rfl,rfl⟩
 refine Y.m (.c .n) ?_
 refine Y.sk .g2 ?_
 refine Y.dk rfl rfl .g2 (aZ (cs:= [.string ah,.int .i64 ai]) rfl pI (pv2 (.t .g2) (.t .z)) rfl) ?_
 refine Y.e (aE rfl rfl) rfl (by decide) rfl (aS (cs:= [.string ah,.int .i64 ai]) rfl cZ (inz eF) (by decide) (pv1 (.t .z)) rfl rfl (by decide) rfl rfl) ?_
 rintro _ _ ⟨g32,rfl,rfl⟩
 refine Y.sk .g3 ?_
 refine Y.v (c:=aG gH (⟨ah,ai⟩:aQ) [.string ah,.int .i64 ai]) .n (fun w S h=>fH (⟨ah,ai⟩:aQ) h (by first | assumption | omega |(dsimp only;exact zH _ (List.mem_of_getElem? (by assumption))) | decide)) ?_
 refine Y.e (aE rfl rfl) rfl (by decide) rfl (dU rfl cZ eF rfl (.t .g8) (.t .z) (.c .g3 (.c .g1 (.c .z .n))) (by first | omega |(simp <;> omega)) (by first | omega |(simp <;> omega))) ?_
 rintro _ _ rfl
 refine Y.h (WS.a .z) ?_
 rintro⟨ap,aq,rfl,az,a0,a1⟩
 refine Y.sk .g2 ?_
 refine Y.df rfl rfl .g2 (.s16 .g3) bE ?_
 refine Y.es (aE rfl rfl) rfl (es1 (off:=4) rfl nC (.t .z) (.t .g1) rfl rfl .g3 rfl .g4) ?_
 refine Y.sl rfl ?_
 refine Y.aa ?_
 refine Y.ag (by kernel_rfl) ?_
 refine Y.ac (Y.g (Y.region (Y.mv rfl (.s16 .g2) ?_)))
 refine Y.ql rfl (bQ (c:=((j+1:Nat):Int)) rfl (.t .z) .c (wr (by omega) (by omega) (by omega))) ?_
 refine Y.er (.s16 .g4) (Y.as rfl .z (Y.nil ?_))
 refine Y.ae ((j+1),ap,aq,((z+1)+1),E++ [(⟨ah,ai⟩:aQ)]) ⟨by omega,⟨by omega,(by first | omega |(simp <;> omega)),(by first | exact hEn | exact fun e he=>(List.mem_append.1 he).elim (hEn e) (fun he=>by obtain rfl:=List.mem_singleton.1 he;exact sG _ (List.mem_of_getElem? (by assumption))))⟩⟩ (by first | omega |(dsimp only;omega)) (.c .z (.c (.s16 .g5) (.c (.s16 .g6) (.c (.s16 .g7) (.c (.s16 .g8) .n))))) (fun _ h=>h.sel (.c .g1 (.c .g2 (.c .z (.c .z (.c .z .n))))))
 refine Y.skip (Y.ac (Y.g (Y.region (Y.mv rfl .g6 ?_))))
 refine Y.ql rfl (bQ (c:=((j+1:Nat):Int)) rfl (.t .z) .c (wr (by omega) (by omega) (by omega))) ?_
 refine Y.er .g8 (Y.as rfl .z (Y.nil ?_))
 refine Y.ae ((j+1),aa,ab,(z+1),E) ⟨by omega,⟨by omega,(by first | omega |(simp <;> omega)),(by first | exact hEn | exact fun e he=>(List.mem_append.1 he).elim (hEn e) (fun he=>by obtain rfl:=List.mem_singleton.1 he;exact sG _ (List.mem_of_getElem? (by assumption))))⟩⟩ (by first | omega |(dsimp only;omega)) (.c .z (.c .g9 (.c .g10 (.c .g11 (.c .g12 .n))))) (fun _ h=>h.sel (.c .g1 (.c .g1 (.c .g1 (.c .z (.c .z .n))))))
 refine Y.exit (Y.ab (Y.ab (Y.ai (Y.g (Y.seq (Y.region (Y.ql rfl (qW rfl fG (.t .g6) .g2 aU) ?_)))))))
 refine Y.es (aD rfl) rfl (esW rfl (.t .g8) (.t .z) .g4 aU rfl rfl) ?_
 refine Y.nt (Y.ret (Y.y (Y.r ?_)))
 refine Y.add (c:=aG bY [] [.slice none 0 0]) (fun w S=>aN w S none) ?_
 refine Y.i (dD rfl .g8 fG .g1 aU) (.c .z (.c .g1 (.c .g3 .n))) ?_
 exact⟨⟨2,0,0,[],E⟩,_,_,_,⟨by first | omega |(dsimp only;omega) |(simp <;> omega),by first | omega |(dsimp only;omega) |(simp <;> omega),by first | exact hEn |(intro e he;simp at he;done),by first | exact hBn |(intro b hb;simp at hb;done),by omega,by omega⟩,rfl,rfl⟩
 refine Y.skip (Y.ac (Y.g (Y.seq (Y.region (Y.mv rfl .g8 ?_)))))
 refine Y.cl rfl rfl Tryz.func42 rfl rfl (aX (.t .z) .c) (.c .z .n) (fun _ _ hs tr=>mG (tr.ctx hcd) _ hs (by omega) (by omega)) ?_
 rintro _ _ ⟨ak,h0m36,h1m36,rfl,rfl⟩
 refine Y.m (.c .n) ?_
 refine Y.ql rfl (bQ (c:=1+ak) rfl .c (.t .z) (wr (by omega) (by omega) (by omega))) ?_
 refine Y.mv rfl .g11 ?_
 refine Y.cl rfl rfl Tryz.func42 rfl rfl (aX (.t .z) .c) (.c .z .n) (fun _ _ hs tr=>mG (tr.ctx hcd) _ hs (by omega) (by omega)) ?_
 rintro _ _ ⟨ar,h0m37,h1m37,rfl,rfl⟩
 refine Y.m (.c .n) ?_
 refine Y.ql rfl (aZ (cs:= [.int .i64 1,.int .i64 (1+ak),.int .i64 ar,.slice none 0 0,.slice none 0 0]) rfl rX (pv3 .c (.t .g2) (.t .z)) rfl) ?_
 refine Y.el rfl (bL rfl tB rfl rfl) ?_
 rintro _ _ ⟨g38,rfl,rfl⟩
 refine Y.es (aD rfl) rfl (esW rfl (.t .z) (.t .g1) .z aU rfl rfl) ?_
 refine Y.nt (Y.seq (Y.seq (Y.region (Y.ql rfl (aA rfl .c) (Y.nt (Y.block ?_))))))
 refine Y.add (c:=aG bY [] [.slice none 0 0]) (fun w S=>aN w S none) ?_
 refine Y.aj (γ:=(Option Addr)×Nat×Int×Int×(List Int)) (fun⟨ad,ae,j,z,B⟩=> [(7,.int .i64 j),(6,.pointer (some ⟨g38,0,none⟩)),(2,.pointer (some ⟨g2,0,none⟩)),(0,.pointer (some ⟨g0,0,none⟩))]) (fun⟨ad,ae,j,z,B⟩=> [aG bY B [.slice ad B.length ae],cM g38 44 5 1 [.int .i64 1,.int .i64 (1+ak),.int .i64 ar,.slice ad B.length ae,.slice none 0 0],cM g0 e0 s0 1 ((.slice Ac cd.length cc) :: (.int .i64 z) :: ac),cM g2 44 5 1 [.int .i64 0,.int .i64 0,.int .i64 0,.slice none 0 0,.slice none 0 0]]) (fun⟨ad,ae,j,z,B⟩=>(0≤j∧j≤10)∧(a≤z∧z≤a+5+j)∧(B.length:Int)=j∧∀b,b∈B→0≤b∧b≤19) (fun⟨ad,ae,j,z,B⟩=>(10 - j:Int).toNat) (none,0,0,(((a+1)+1)+1),[]) ⟨by omega,by omega,rfl,fun b hb=>absurd hb (by simp)⟩ (.c .z (.c .g1 (.c .g15 (.c .g16 .n)))) (fun _ h=>h.sel (.c .z (.c .z (.c .z (.c .z .n))))) ?_
 rintro⟨ad,ae,j,z,B⟩ ⟨hj,hz,hB,hBn⟩
 refine Y.seq (Y.seq (Y.region (Y.mv rfl .z (Y.fa rfl .g2 hX (Y.ld rfl cF .z .g1 ?_)))))
 refine Y.cl rfl rfl Tryz.func117 rfl rfl (bT (.t .z)) .n (fun _ _ hs tr=>aD9 _ (by omega) (by omega)) ?_
 rintro _ _ ⟨rfl,rfl⟩
 refine Y.m .n ?_
 refine Y.ql rfl (dJ rfl (.t .g3) (.t .z)) (Y.nt ?_)
 refine Y.u (.t .z) (fun ba=> ?_) (fun ba=> ?_)
 refine Y.skip (Y.g (Y.seq (Y.block ?_)))
 refine Y.sel (.c .z (.c .g1 (.c .z (.c .z .n)))) ?_
 refine Y.dr .g2 11 gG ?_
 refine Y.sc (qs 0 3++ [(4,true),(5,true),(3,false),(6,true),(7,true),(8,false),(9,false),(10,true),(11,false)]) (by kernel_rfl) ?_
 refine Y.df rfl rfl .g2 .g6 dI (Y.dl rfl rfl .g2 fA .z .z (Y.dm rfl rfl .g2 .g10 (Y.dm rfl rfl .g2 .g8 ?_)))
 refine Y.dk rfl rfl .g2 (sU (c:=5 * j) rfl .c (.t .z) (wr (by omega) (by omega) (by omega))) ?_
 refine Y.call (aE rfl rfl) rfl (by decide) rfl (bS rfl Tryz.func42 rfl rfl (aX (.t .g2) .c)) (.c .g1 .n) (fun _ _ hs tr=>mG (tr.ctx hcd) _ hs (by omega) (by omega)) ?_
 rintro _ _ ⟨aj,h0m41,h1m41,rfl,rfl⟩
 refine Y.m (.c .n) ?_
 refine Y.sk .g2 ?_
 refine Y.dk rfl rfl .g2 (bQ (c:=aj+(5 * j)) rfl (.t .z) (.t .g1) (wr (by omega) (by omega) (by omega))) ?_
 refine Y.dk rfl rfl .g2 (xR (c:=Int.tmod (aj+(5 * j)) 20) rfl (.t .z) .c (by omega) rfl) ?_
 refine Y.e (aE rfl rfl) rfl (by decide) rfl (aS (cs:= [.int .i64 (Int.tmod (aj+(5 * j)) 20)]) rfl eQ (inz iO) (by decide) (pv1 (.t .z)) rfl rfl (by decide) rfl rfl) ?_
 rintro _ _ ⟨g42,rfl,rfl⟩
 refine Y.sk .g3 ?_
 refine Y.add (c:=aG (iQ .i64) (Int.tmod (aj+(5 * j)) 20) [.int .i64 (Int.tmod (aj+(5 * j)) 20)]) (fun _ _=>⟨rfl,trivial⟩) ?_
 refine Y.e (aE rfl rfl) rfl (by decide) rfl (dU rfl eQ iO rfl (.t .g7) (.t .z) (.c .g3 (.c .g1 (.c .z .n))) (by first | omega |(simp <;> omega)) (by first | omega |(simp <;> omega))) ?_
 rintro _ _ rfl
 refine Y.h (WS.a .z) ?_
 rintro⟨au,av,rfl,a2,a3,a4⟩
 refine Y.sk .g2 ?_
 refine Y.df rfl rfl .g2 .g16 dI ?_
 refine Y.es (aE rfl rfl) rfl (es1 (off:=3) rfl aCd (.t .z) (.t .g1) rfl rfl .g2 rfl .g3) ?_
 refine Y.sl rfl ?_
 refine Y.aa ?_
 refine Y.ag (by kernel_rfl) ?_
 refine Y.ac (Y.g (Y.region (Y.mv rfl .g16 ?_)))
 refine Y.ql rfl (bQ (c:=j+1) rfl (.t .z) .c (wr (by omega) (by omega) (by omega))) ?_
 refine Y.er (.s16 .g2) (Y.as rfl .z (Y.nil ?_))
 refine Y.ae (au,av,j+1,(z+1),B++ [Int.tmod (aj+(5 * j)) 20]) ⟨by omega,by omega,(by simp only [List.length_append,List.length_cons,List.length_nil];omega),fun b hb=>(List.mem_append.1 hb).elim (hBn b) (fun hb=>by obtain rfl:=List.mem_singleton.1 hb;first |(have ht:=jR (n:=20) (by assumption) (by omega);omega) |(refine⟨(jR (by omega) (by omega)).1,?_⟩;have ht:=fun x (hx:(0:Int)≤x)=>(jR (x:=x) (n:=20) hx (by omega)).2;exact Int.le_of_lt_add_one (ht _ (by omega))))⟩ (by first | omega |(dsimp only;omega)) (.c .z (.c (.s16 .g3) (.c (.s16 .g4) (.c (.s16 .g5) .n)))) (fun _ h=>h.sel (.c .g1 (.c .z (.c .z (.c .z .n)))))
 refine Y.exit (Y.ab (Y.ab (Y.ai (Y.g (Y.seq (Y.region (Y.ql rfl (qW rfl fG (.t .g6) .g1 aU) ?_)))))))
 refine Y.es (aD rfl) rfl (esW rfl (.t .g8) (.t .z) .g3 aU rfl rfl) ?_
 refine Y.nt (Y.ret ?_)
 refine Y.add (c:=aG cP [] [.slice none 0 0]) (fun w S=>aN w S none) ?_
 refine Y.i (dD rfl .g8 fG .g1 aU) (.c .g2 (.c .z (.c .g2 .n))) ?_
 exact⟨⟨1,1+ak,ar,B,[]⟩,_,_,_,⟨by first | omega |(dsimp only;omega) |(simp <;> omega),by first | omega |(dsimp only;omega) |(simp <;> omega),by first | exact hEn |(intro e he;simp at he;done),by first | exact hBn |(intro b hb;simp at hb;done),by omega,by omega⟩,rfl,rfl⟩

theorem aNe {w0:World}{S0:Bs}{g0 e0 s0:Nat}{ab:List Value}{cd:List UInt8}{Ac:Option Addr}{cc:Nat} (hcd:cX.ro w0 (FF w0 S0) cd [.slice Ac cd.length cc]) {a:Int} (hs:cB [cM g0 e0 s0 1 ((.slice Ac cd.length cc) :: (.int .i64 a) :: ab)] w0 S0) (ha:0≤a∧a≤980000):
    Calls Tryz.prog 136 #[.pointer (some ⟨g0,0,none⟩)] w0 (aJ w0 S0 (fun r l=>∃(x:aF) (v0_ v1_:Value) (u:Int),(x.blocks.length≤11∧x.ents.length≤6∧a≤u∧u≤a+60)∧r= .agg #[.int .i64 x.kind,.int .i64 x.links,.int .i64 x.size,v0_,v1_]∧l= [aG bY x.blocks [v0_],aG cP x.ents [v1_],cM g0 e0 s0 1 (.slice Ac cd.length cc :: .int .i64 u :: ab)])):=by
 obtain⟨hlc,hmc,hbc⟩:=nG hcd
 refine Y.enter (N:=50) Tryz.func136 rfl rfl (by simp) [(0,.pointer (some ⟨g0,0,none⟩))] (by simp) hs ?_
 refine Y.seq (Y.region ?_)
 refine Y.el rfl (bL rfl tB rfl rfl) ?_
 rintro _ _ ⟨g2,rfl,rfl⟩
 refine Y.nt (Y.seq (Y.region (Y.mv rfl .g1 ?_)))
 refine Y.cl rfl rfl Tryz.func93 rfl rfl (bT (.t .z)) (.c .g1 .n) (fun _ _ hs tr=>aKh (tr.ctx hcd) hs (by omega)) ?_
 rintro _ _ ⟨aa,v5,v7,u4,ap,rfl,rfl⟩
 refine Y.m (.c (.c (.c .n))) ?_
 refine Y.h (WS.a .z) ?_
 rintro⟨bq,br,rfl,a6,a7,a8⟩
 refine Y.h (WS.a .g1) ?_
 rintro⟨a9,ba,rfl,aq,ar,au⟩
 refine Y.el rfl (bL rfl tB rfl rfl) ?_
 rintro _ _ ⟨g11,rfl,rfl⟩
 refine Y.es (aD rfl) rfl (esW rfl (.t .z) (.t .g1) .z aU rfl rfl) ?_
 refine Y.nt (Y.seq (Y.seq (Y.region (Y.mv rfl .g4 ?_))))
 refine Y.cl rfl rfl Tryz.func42 rfl rfl (aX (.t .z) .c) (.c .g3 .n) (fun _ _ hs tr=>mG (tr.ctx hcd) _ hs (by omega) (by omega)) ?_
 rintro _ _ ⟨bs,h0m12,h1m12,rfl,rfl⟩
 refine Y.m (.c .n) ?_
 refine Y.nt (Y.block (Y.seq (Y.region (Y.ql rfl (bZ rfl (.t .z) .c) (Y.as rfl .z (Y.nt ?_))))))
 refine Y.u (.t .z) (fun bb=> ?_) (fun bb=> ?_)
 refine Y.region (Y.mv rfl .g8 ?_)
 refine Y.el rfl (aS (ps:= [(0,.int .i64 (-1)),(1,.int .i64 3),(2,.int .i64 0),(3,.int .i64 1),(4,.int .i64 2)]) (cs:= [.int .i64 (-1),.int .i64 3,.int .i64 0,.int .i64 1,.int .i64 2]) rfl eQ (inz iO) (by decide) (by intro act hact;simp only [List.map_toArray,List.map_cons,List.map_nil,(show Val _ _ _ from .c) act hact,(show Val _ _ _ from .c) act hact,(show Val _ _ _ from .c) act hact,(show Val _ _ _ from .c) act hact,(show Val _ _ _ from .c) act hact]) rfl rfl (by decide) rfl rfl) ?_
 rintro _ _ ⟨g14,rfl,rfl⟩
 refine Y.v (c:=aG bY ([(-1),3,0,1,2]:(List Int)) [.slice (some ⟨g14,0,none⟩) 5 5]) (.c .z .n) (fun w S h=>gK (xs:=([(-1),3,0,1,2]:(List Int))) h rfl (by simp) (by omega) (by omega)) ?_
 refine Y.cl rfl rfl Tryz.func41 rfl rfl (aX (.t .g1) (.t .z)) (.c .g1 .n) (fun _ _ hs tr=>tC (tr.ctx hcd) (tr.own .z) hs (by omega) (by simp)) ?_
 rintro _ _ ⟨bc,aj,rfl,rfl⟩
 refine Y.m (.c .n) ?_
 simp only [List.mem_cons,List.not_mem_nil,or_false] at aj
 refine Y.fa rfl .g7 cV ?_
 refine Y.es (aD rfl) rfl (es1 (off:=0) rfl jQ (.t .z) (.t .g1) rfl rfl .g2 rfl .z) ?_
 refine Y.nil (Y.ac (Y.g (Y.seq (Y.region (Y.ql rfl (qW rfl fG (.t .g8) .z aU) ?_)))))
 refine Y.es (aD rfl) rfl (esW rfl (.t .g12) (.t .z) .g5 aU rfl rfl) ?_
 refine Y.nt (Y.ret ?_)
 refine Y.i (dD rfl .g12 fG .z aU) (.c .g4 (.c .g4 (.c .g2 .n))) ?_
 exact⟨⟨bc,aa.links,aa.size,aa.blocks,aa.ents⟩,_,_,_,⟨by first | omega |(dsimp only;omega) |(simp <;> omega),by first | omega |(dsimp only;omega) |(simp <;> omega),by omega,by omega⟩,rfl,rfl⟩
 refine Y.seq (Y.region (Y.ql rfl (bZ rfl (.t .g2) .c) (Y.as rfl .z (Y.nt ?_))))
 refine Y.u (.t .z) (fun bd=> ?_) (fun bd=> ?_)
 refine Y.region (Y.mv rfl .g10 ?_)
 refine Y.el rfl (aS (cs:= [.int .i64 0,.int .i64 61,.int .i64 1]) rfl eQ (inz iO) (by decide) (pv3 .c .c .c) rfl rfl (by decide) rfl rfl) ?_
 rintro _ _ ⟨g18,rfl,rfl⟩
 refine Y.v (c:=aG bY ([0,61,1]:(List Int)) [.slice (some ⟨g18,0,none⟩) 3 3]) (.c .z .n) (fun w S h=>gK (xs:=([0,61,1]:(List Int))) h rfl (by simp) (by omega) (by omega)) ?_
 refine Y.cl rfl rfl Tryz.func41 rfl rfl (aX (.t .g1) (.t .z)) (.c .g1 .n) (fun _ _ hs tr=>tC (tr.ctx hcd) (tr.own .z) hs (by omega) (by simp)) ?_
 rintro _ _ ⟨be,ak,rfl,rfl⟩
 refine Y.m (.c .n) ?_
 simp only [List.mem_cons,List.not_mem_nil,or_false] at ak
 refine Y.fa rfl .g9 gC ?_
 refine Y.es (aD rfl) rfl (es1 (off:=1) rfl jQ (.t .z) (.t .g1) rfl rfl .g2 rfl .g1) ?_
 refine Y.nil (Y.ac (Y.g (Y.seq (Y.region (Y.ql rfl (qW rfl fG (.t .g10) .z aU) ?_)))))
 refine Y.es (aD rfl) rfl (esW rfl (.t .g14) (.t .z) .g5 aU rfl rfl) ?_
 refine Y.nt (Y.ret ?_)
 refine Y.i (dD rfl .g14 fG .z aU) (.c .g4 (.c .g4 (.c .g2 .n))) ?_
 exact⟨⟨aa.kind,be,aa.size,aa.blocks,aa.ents⟩,_,_,_,⟨by first | omega |(dsimp only;omega) |(simp <;> omega),by first | omega |(dsimp only;omega) |(simp <;> omega),by omega,by omega⟩,rfl,rfl⟩
 refine Y.seq (Y.region (Y.ql rfl (bZ rfl (.t .g4) .c) (Y.as rfl .z (Y.nt ?_))))
 refine Y.u (.t .z) (fun bf=> ?_) (fun bf=> ?_)
 refine Y.region (Y.mv rfl .g12 ?_)
 refine Y.el rfl (aS (cs:= [.int .i64 (-1),.int .i64 33,.int .i64 8]) rfl eQ (inz iO) (by decide) (pv3 .c .c .c) rfl rfl (by decide) rfl rfl) ?_
 rintro _ _ ⟨g22,rfl,rfl⟩
 refine Y.v (c:=aG bY ([(-1),33,8]:(List Int)) [.slice (some ⟨g22,0,none⟩) 3 3]) (.c .z .n) (fun w S h=>gK (xs:=([(-1),33,8]:(List Int))) h rfl (by simp) (by omega) (by omega)) ?_
 refine Y.cl rfl rfl Tryz.func41 rfl rfl (aX (.t .g1) (.t .z)) (.c .g1 .n) (fun _ _ hs tr=>tC (tr.ctx hcd) (tr.own .z) hs (by omega) (by simp)) ?_
 rintro _ _ ⟨bg,al,rfl,rfl⟩
 refine Y.m (.c .n) ?_
 simp only [List.mem_cons,List.not_mem_nil,or_false] at al
 refine Y.fa rfl .g11 hX ?_
 refine Y.es (aD rfl) rfl (es1 (off:=2) rfl jQ (.t .z) (.t .g1) rfl rfl .g2 rfl .g2) ?_
 refine Y.nil (Y.ac (Y.g (Y.seq (Y.region (Y.ql rfl (qW rfl fG (.t .g12) .z aU) ?_)))))
 refine Y.es (aD rfl) rfl (esW rfl (.t .g16) (.t .z) .g5 aU rfl rfl) ?_
 refine Y.nt (Y.ret ?_)
 refine Y.i (dD rfl .g16 fG .z aU) (.c .g4 (.c .g4 (.c .g2 .n))) ?_
 exact⟨⟨aa.kind,aa.links,bg,aa.blocks,aa.ents⟩,_,_,_,⟨by first | omega |(dsimp only;omega) |(simp <;> omega),by first | omega |(dsimp only;omega) |(simp <;> omega),by omega,by omega⟩,rfl,rfl⟩
 refine Y.seq (Y.region (Y.ql rfl (bZ rfl (.t .g6) .c) (Y.as rfl .z (Y.nt ?_))))
 refine Y.u (.t .z) (fun bh=> ?_) (fun bh=> ?_)
 refine Y.sel (.c .z (.c .g1 (.c .g1 (.c .z (.c .z .n))))) ?_
 refine Y.dr .g3 8 gG ?_
 refine Y.sc (qs 0 3++ [(3,false),(4,false),(5,false),(6,false),(7,true),(8,false)]) (by kernel_rfl) ?_
 refine Y.df rfl rfl .g3 .g10 dI (Y.dl rfl rfl .g3 fA .z .z (Y.dm rfl rfl .g3 .g16 ?_))
 refine Y.e (aE rfl rfl) rfl (by decide) rfl (aS (cs:= [.int .i64 0,.int .i64 20,.int .i64 (-1)]) rfl eQ (inz iO) (by decide) (pv3 .c .c .c) rfl rfl (by decide) rfl rfl) ?_
 rintro _ _ ⟨g26,rfl,rfl⟩
 refine Y.sk .g4 ?_
 refine Y.v (c:=aG bY ([0,20,(-1)]:(List Int)) [.slice (some ⟨g26,0,none⟩) 3 3]) (.c .z .n) (fun w S h=>gK (xs:=([0,20,(-1)]:(List Int))) h rfl (by simp) (by omega) (by omega)) ?_
 refine Y.call (aE rfl rfl) rfl (by decide) rfl (bS rfl Tryz.func41 rfl rfl (aX (.t .g1) (.t .z))) (.c .g1 .n) (fun _ _ hs tr=>tC (tr.ctx hcd) (tr.own .z) hs (by omega) (by simp)) ?_
 rintro _ _ ⟨ai,am,rfl,rfl⟩
 refine Y.m (.c .n) ?_
 simp only [List.mem_cons,List.not_mem_nil,or_false] at am
 refine Y.sk .g4 ?_
 refine Y.e (aE rfl rfl) rfl (by decide) rfl (aS (cs:= [.int .i64 ai]) rfl eQ (inz iO) (by decide) (pv1 (.t .z)) rfl rfl (by decide) rfl rfl) ?_
 rintro _ _ ⟨g29,rfl,rfl⟩
 refine Y.sk .g5 ?_
 refine Y.add (c:=aG (iQ .i64) ai [.int .i64 ai]) (fun _ _=>⟨rfl,trivial⟩) ?_
 refine Y.e (aE rfl rfl) rfl (by decide) rfl (dU rfl eQ iO rfl (.t .g4) (.t .z) (.c .g4 (.c .g1 (.c .z .n))) (by first | omega |(simp <;> omega)) (by first | omega |(simp <;> omega))) ?_
 rintro _ _ rfl
 refine Y.h (WS.a .z) ?_
 rintro⟨bi,bj,rfl,av,aw,ax⟩
 refine Y.sk .g4 ?_
 refine Y.df rfl rfl .g4 (.s16 .g1) dI ?_
 refine Y.es (aE rfl rfl) rfl (es1 (off:=3) rfl aCd (.t .z) (.t .g1) rfl rfl .g4 rfl .g3) ?_
 refine Y.sl rfl ?_
 refine Y.aa ?_
 refine Y.ag (by kernel_rfl) ?_
 refine Y.ac (Y.g (Y.seq (Y.region (Y.ql rfl (qW rfl fG (.t (.s16 .g2)) .z aU) ?_))))
 refine Y.es (aD rfl) rfl (esW rfl (.t (.s16 .g6)) (.t .z) .g5 aU rfl rfl) ?_
 refine Y.nt (Y.ret ?_)
 refine Y.i (dD rfl (.s16 .g6) fG .z aU) (.c .g2 (.c .g4 (.c .g2 .n))) ?_
 exact⟨⟨aa.kind,aa.links,aa.size,aa.blocks++ [ai],aa.ents⟩,_,_,_,⟨by first | omega |(dsimp only;omega) |(simp <;> omega),by first | omega |(dsimp only;omega) |(simp <;> omega),by omega,by omega⟩,rfl,rfl⟩
 refine Y.seq (Y.region (Y.ql rfl (bZ rfl (.t .g8) .c) (Y.as rfl .z (Y.nt ?_))))
 refine Y.u (.t .z) (fun bk=> ?_) (fun bk=> ?_)
 refine Y.sel (.c .z (.c .g1 (.c .g1 (.c .z (.c .z .n))))) ?_
 refine Y.dr .g3 11 gG ?_
 refine Y.sc (qs 0 3++ [(4,true)]) (by kernel_rfl) ?_
 refine Y.df rfl rfl .g3 .g12 bE (Y.dl rfl rfl .g3 dP .z .z (Y.dm rfl rfl .g3 (.s16 .g2) (Y.dm rfl rfl .g3 (.s16 .g3) (Y.aa ?_))))
 refine Y.au (i:=3) (j:=5) (by kernel_rfl) ?_ ?_
 refine Y.call (aE rfl rfl) rfl (by decide) rfl (bS rfl Tryz.func121 rfl rfl (bT (.t .g1))) (.c .z .n) (fun _ _ hs tr=>aEk (tr.ctx hcd) hs (by omega)) ?_
 rintro _ _ ⟨ac,ag,rfl,rfl⟩
 refine Y.m (.c .n) ?_
 have ay:=(rV ag).1
 refine Y.sk .g3 ?_
 refine Y.aa ?_
 refine Y.sc [(5,false),(6,false),(7,true),(8,false),(9,false),(10,true),(11,false)] (by kernel_rfl) ?_
 refine Y.e (aE rfl rfl) rfl (by decide) rfl (aS (cs:= [.int .i64 0,.int .i64 10]) rfl eQ (inz iO) (by decide) (pv2 .c .c) rfl rfl (by decide) rfl rfl) ?_
 rintro _ _ ⟨g35,rfl,rfl⟩
 refine Y.sk .g4 ?_
 refine Y.v (c:=aG bY ([0,10]:(List Int)) [.slice (some ⟨g35,0,none⟩) 2 2]) (.c .z .n) (fun w S h=>gK (xs:=([0,10]:(List Int))) h rfl (by simp) (by omega) (by omega)) ?_
 refine Y.call (aE rfl rfl) rfl (by decide) rfl (bS rfl Tryz.func41 rfl rfl (aX (.t .g2) (.t .z))) (.c .g1 .n) (fun _ _ hs tr=>tC (tr.ctx hcd) (tr.own .z) hs (by omega) (by simp)) ?_
 rintro _ _ ⟨ad,an,rfl,rfl⟩
 refine Y.m (.c .n) ?_
 simp only [List.mem_cons,List.not_mem_nil,or_false] at an
 refine Y.sk .g4 ?_
 refine Y.dk rfl rfl .g4 (aZ (cs:= [.string ac,.int .i64 ad]) rfl pI (pv2 (.t .g2) (.t .z)) rfl) ?_
 refine Y.e (aE rfl rfl) rfl (by decide) rfl (aS (cs:= [.string ac,.int .i64 ad]) rfl cZ (inz eF) (by decide) (pv1 (.t .z)) rfl rfl (by decide) rfl rfl) ?_
 rintro _ _ ⟨g38,rfl,rfl⟩
 refine Y.sk .g5 ?_
 refine Y.v (c:=aG gH (⟨ac,ad⟩:aQ) [.string ac,.int .i64 ad]) .n (fun w S h=>fH (⟨ac,ad⟩:aQ) h (by first | assumption | omega |(dsimp only;omega))) ?_
 refine Y.e (aE rfl rfl) rfl (by decide) rfl (dU rfl cZ eF rfl (.t .g7) (.t .z) (.c .g5 (.c .g1 (.c .z .n))) (by first | omega |(simp <;> omega)) (by first | omega |(simp <;> omega))) ?_
 rintro _ _ rfl
 refine Y.h (WS.a .z) ?_
 rintro⟨bm,bn,rfl,az,a0,a1⟩
 refine Y.sk .g4 ?_
 refine Y.df rfl rfl .g4 (.s16 .g6) bE ?_
 refine Y.es (aE rfl rfl) rfl (es1 (off:=4) rfl nC (.t .z) (.t .g1) rfl rfl .g4 rfl .g4) ?_
 refine Y.sl rfl ?_
 refine Y.aa ?_
 refine Y.ag (by kernel_rfl) ?_
 refine Y.ac (Y.g (Y.seq (Y.region (Y.ql rfl (qW rfl fG (.t (.s16 .g7)) .z aU) ?_))))
 refine Y.es (aD rfl) rfl (esW rfl (.t (.s16 .g11)) (.t .z) .g5 aU rfl rfl) ?_
 refine Y.nt (Y.ret ?_)
 refine Y.i (dD rfl (.s16 .g11) fG .z aU) (.c .g5 (.c .g2 (.c .g2 .n))) ?_
 exact⟨⟨aa.kind,aa.links,aa.size,aa.blocks,aa.ents++ [(⟨ac,ad⟩:aQ)]⟩,_,_,_,⟨by first | omega |(dsimp only;omega) |(simp <;> omega),by first | omega |(dsimp only;omega) |(simp <;> omega),by omega,by omega⟩,rfl,rfl⟩
 refine Y.e (aE rfl rfl) rfl (by decide) rfl (aS (cs:= [.int .i64 0,.int .i64 10]) rfl eQ (inz iO) (by decide) (pv2 .c .c) rfl rfl (by decide) rfl rfl) ?_
 rintro _ _ ⟨g41,rfl,rfl⟩
 refine Y.sk .g4 ?_
 refine Y.aa ?_
 refine Y.sc [(3,false),(6,false),(7,true),(8,false),(9,false),(10,true),(11,false)] (by kernel_rfl) ?_
 refine Y.call (aE rfl rfl) rfl (by decide) rfl (bS rfl Tryz.func121 rfl rfl (bT (.t .g2))) (.c .g1 .n) (fun _ _ hs tr=>aEk (tr.ctx hcd) hs (by omega)) ?_
 rintro _ _ ⟨ae,ah,rfl,rfl⟩
 refine Y.m (.c .n) ?_
 have a2:=(rV ah).1
 refine Y.sk .g4 ?_
 refine Y.v (c:=aG bY ([0,10]:(List Int)) [.slice (some ⟨g41,0,none⟩) 2 2]) (.c .g1 .n) (fun w S h=>gK (xs:=([0,10]:(List Int))) h rfl (by simp) (by omega) (by omega)) ?_
 refine Y.call (aE rfl rfl) rfl (by decide) rfl (bS rfl Tryz.func41 rfl rfl (aX (.t .g2) (.t .g1))) (.c .g1 .n) (fun _ _ hs tr=>tC (tr.ctx hcd) (tr.own .z) hs (by omega) (by simp)) ?_
 rintro _ _ ⟨af,ao,rfl,rfl⟩
 refine Y.m (.c .n) ?_
 simp only [List.mem_cons,List.not_mem_nil,or_false] at ao
 refine Y.sk .g4 ?_
 refine Y.dk rfl rfl .g4 (aZ (cs:= [.string ae,.int .i64 af]) rfl pI (pv2 (.t .g1) (.t .z)) rfl) ?_
 refine Y.e (aE rfl rfl) rfl (by decide) rfl (aS (cs:= [.string ae,.int .i64 af]) rfl cZ (inz eF) (by decide) (pv1 (.t .z)) rfl rfl (by decide) rfl rfl) ?_
 rintro _ _ ⟨g46,rfl,rfl⟩
 refine Y.sk .g5 ?_
 refine Y.v (c:=aG gH (⟨ae,af⟩:aQ) [.string ae,.int .i64 af]) .n (fun w S h=>fH (⟨ae,af⟩:aQ) h (by first | assumption | omega |(dsimp only;omega))) ?_
 refine Y.e (aE rfl rfl) rfl (by decide) rfl (dU rfl cZ eF rfl (.t .g7) (.t .z) (.c .g5 (.c .g1 (.c .z .n))) (by first | omega |(simp <;> omega)) (by first | omega |(simp <;> omega))) ?_
 rintro _ _ rfl
 refine Y.h (WS.a .z) ?_
 rintro⟨bo,bp,rfl,a3,a4,a5⟩
 refine Y.sk .g4 ?_
 refine Y.df rfl rfl .g4 (.s16 .g6) bE ?_
 refine Y.es (aE rfl rfl) rfl (es1 (off:=4) rfl nC (.t .z) (.t .g1) rfl rfl .g4 rfl .g4) ?_
 refine Y.sl rfl ?_
 refine Y.aa ?_
 refine Y.ag (by kernel_rfl) ?_
 refine Y.ac (Y.g (Y.seq (Y.region (Y.ql rfl (qW rfl fG (.t (.s16 .g7)) .z aU) ?_))))
 refine Y.es (aD rfl) rfl (esW rfl (.t (.s16 .g11)) (.t .z) .g5 aU rfl rfl) ?_
 refine Y.nt (Y.ret ?_)
 refine Y.i (dD rfl (.s16 .g11) fG .z aU) (.c .g5 (.c .g2 (.c .g2 .n))) ?_
 exact⟨⟨aa.kind,aa.links,aa.size,aa.blocks,aa.ents++ [(⟨ae,af⟩:aQ)]⟩,_,_,_,⟨by first | omega |(dsimp only;omega) |(simp <;> omega),by first | omega |(dsimp only;omega) |(simp <;> omega),by omega,by omega⟩,rfl,rfl⟩
 refine Y.skip (Y.ac (Y.g (Y.seq (Y.region (Y.ql rfl (qW rfl fG (.t .g12) .g1 aU) ?_)))))
 refine Y.es (aD rfl) rfl (esW rfl (.t .g16) (.t .z) .g4 aU rfl rfl) ?_
 refine Y.nt (Y.ret ?_)
 refine Y.i (dD rfl .g16 fG .z aU) (.c .g3 (.c .g3 (.c .g1 .n))) ?_
 exact⟨⟨aa.kind,aa.links,aa.size,aa.blocks,aa.ents⟩,_,_,_,⟨by first | omega |(dsimp only;omega) |(simp <;> omega),by first | omega |(dsimp only;omega) |(simp <;> omega),by omega,by omega⟩,rfl,rfl⟩

end Go.Proofs.YtmejbfmhaoilmaaGreat

/- What is proved: contracts of functions, one a function. No condition. -/
import Derived.Test.YtmejbfmhaoilmaaGreatDoorBase1
import Derived.Test.YtmejbfmhaoilmaaGreatDoorW20
namespace Go.Proofs.YtmejbfmhaoilmaaGreatDoor
open Go Go.RowKit
set_option linter.unusedVariables false
set_option linter.unusedSimpArgs false
set_option maxHeartbeats 1000000
set_option maxRecDepth 20000
theorem aMu {w0:World}{S0:Bs}{xs:(List aF)}{v0:Value} (h0:bJ.ro w0 (FF w0 S0) xs [v0]) (a:Int) (hI:aZ xs=0) (hG:∀(j:Nat) x,xs[j]? =some x→rA xs x) (hr:0≤a∧a<(xs.length:Int)):
    Calls Tryz.prog 28 #[v0,.int .i64 a] w0 (aI w0 S0 (fun r l=>l= [aH bK (lE xs a.toNat) [r]])):=by
 obtain⟨A0,c0,rfl,ck,cm,cn,b5⟩:=aD h0
 obtain⟨co,cp⟩:=hr
 have cq:=lO hI
 refine Y.enter (N:=69) Tryz.func28 rfl rfl (by simp) [(0,.slice A0 xs.length c0),(1,.int .i64 a)] (by simp) (l0:= []) trivial ?_
 refine Y.seq (Y.region (Y.ql rfl (aA rfl .c) (Y.nt (Y.seq (Y.region (Y.mv rfl .g1 (Y.ql rfl (bD rfl cQ (.t .z)) ?_)))))))
 refine Y.el rfl (lJ (n:=xs.length) (x0:=false) rfl xP aJy rfl (fun _ _=>⟨rfl,trivial⟩) (.t .z) (.t .z) (by omega) (by omega)) ?_
 rintro _ _ rfl
 refine Y.h (WS.a .z) ?_
 rintro⟨b7,b8,rfl,b9,ca,cb⟩
 refine Y.as rfl .z (Y.nt (Y.seq (Y.region (Y.mv rfl .g6 ?_))))
 refine Y.el rfl (aQ (cs:= [.int .i64 a]) rfl eF (inz gI) (by decide) (pv1 (.t .z)) rfl rfl (by decide) rfl rfl) ?_
 rintro _ _ ⟨g4,rfl,rfl⟩
 refine Y.as rfl .z (Y.nt (Y.seq (Y.block ?_)))
 refine Y.ad (c:=aH bK ([a]:(List Int)) [.slice (some ⟨g4,0,none⟩) 1 1]) (.c .z .n) (fun w S h=>fS (xs:=([a]:(List Int))) h rfl (by simp) (by omega) (by omega)) ?_
 refine Y.ai (γ:=(Option Addr)×Nat×(Option Addr)×Nat×(List Bool)×(List Int)) (fun⟨ae,ac,ag,ad,b,op⟩=> [(6,.slice ag op.length ad),(5,.slice ae b.length ac),(4,.slice none 0 0),(0,.slice A0 xs.length c0)]) (fun⟨ae,ac,ag,ad,b,op⟩=> [aH bK op [.slice ag op.length ad],aH sG b [.slice ae b.length ac]]) (fun⟨ae,ac,ag,ad,b,op⟩=>Dfs xs a.toNat b op∧op.length+7 * aDx b≤71) (fun⟨ae,ac,ag,ad,b,op⟩=>7 * aDx b+op.length) (b7,b8,(some ⟨g4,0,none⟩),1,List.replicate xs.length false,([a]:List Int)) ⟨by have:=aGs (xs:=xs) (r:=a.toNat) (by omega);rwa [show((a.toNat:Nat):Int)=a by omega] at this,by have:=lO hI;simp only [aDx,List.count_replicate_self,List.length_cons,List.length_nil];omega⟩ (.c .z (.c .g3 (.c .g7 (.c .g8 .n)))) (fun _ h=>h.sel (.c .z (.c .z .n))) ?_
 rintro⟨ae,ac,ag,ad,b,op⟩ ⟨hD,hm⟩
 have hbl:=hD.len
 refine Y.seq (Y.seq (Y.region (Y.mv rfl .z (Y.ql rfl (bD rfl eF (.t .z)) (Y.ql rfl (fI rfl (.t .z) .c) (Y.nt ?_))))))
 refine Y.u (.t .z) (fun b6=> ?_) (fun b6=> ?_)
 refine Y.skip (Y.g (Y.block (Y.seq (Y.region (Y.mv rfl .g3 (Y.mv rfl .g4 (Y.ql rfl (bD rfl eF (.t .z)) ?_)))))))
 refine Y.ql rfl (iT (c:=(op.length:Int) - 1) rfl (.t .z) .c (wr (by omega) (by omega) (by omega))) ?_
 refine Y.h (WS.h .z (by first | omega |(simp <;> omega) |(simp <;> omega))) ?_
 rintro⟨a0,rfl⟩
 refine Y.ql rfl (aB (j:=Int.toNat ((op.length:Int) - 1)) rfl eF jO (.t .g3) (.t .z) (by omega) (by first | omega |(simp <;> omega) |(simp <;> omega))) ?_
 obtain⟨x8,a8⟩:=aK (xs:=op) (j:=Int.toNat ((op.length:Int) - 1)) (by first | omega |(simp <;> omega) |(simp <;> omega))
 obtain⟨⟨ho1x8,ho2x8⟩, -⟩:=hD.opn _ (List.mem_of_getElem? a8)
 refine Y.ql rfl (aM rfl bP (.t .z) (WS.m .z a8)) (Y.as rfl .z (Y.nt (Y.seq (Y.region (Y.mv rfl .g10 (Y.mv rfl .g11 (Y.ql rfl (bD rfl eF (.t .z)) ?_)))))))
 refine Y.ql rfl (iT (c:=(op.length:Int) - 1) rfl (.t .z) .c (wr (by omega) (by omega) (by omega))) ?_
 refine Y.h (WS.r .z) ?_
 rintro⟨-,cr, -, -⟩
 have bg:(List.take (Int.toNat ((op.length:Int) - 1)) op).length=Int.toNat ((op.length:Int) - 1):=by rw [List.length_take];omega
 refine Y.eq .z (congrArg (Value.int .i64) (show(op.length:Int) - 1=(((List.take (Int.toNat ((op.length:Int) - 1)) op).length:Nat):Int) by rw [bg];try omega)) ?_
 refine Y.ad (c:=aH bK (List.take (Int.toNat ((op.length:Int) - 1)) op) [.slice (some a0) ((List.take (Int.toNat ((op.length:Int) - 1)) op).length) ad]) (.c .z .n) (pG (by omega)) ?_
 refine Y.ql rfl (jJ (b:=(List.take (Int.toNat ((op.length:Int) - 1)) op).length) rfl eF jO (.t .g3) (.t .z) (by omega)) ?_
 refine Y.er .g15 (Y.as rfl .z (Y.nt (Y.seq (Y.seq (Y.region (Y.mv rfl .g16 (Y.mv rfl .g7 ?_)))))))
 refine Y.h (WS.h .g1 (by first | omega |(simp <;> omega) |(simp <;> omega))) ?_
 rintro⟨af,rfl⟩
 refine Y.ql rfl (aB (j:=Int.toNat x8) rfl xP yU (.t .g1) (.t .z) (by omega) (by first | omega |(simp <;> omega) |(simp <;> omega))) ?_
 obtain⟨bt,ak⟩:=aK (xs:=b) (j:=Int.toNat x8) (by first | omega |(simp <;> omega) |(simp <;> omega))
 refine Y.ql rfl (aM rfl aI6 (.t .z) (WS.m .g1 ak)) (Y.nt ?_)
 refine Y.cond (.t .z) (fun cc=> ?_) (fun cc=> ?_)
 refine Y.exit (Y.y (Y.ag ?_))
 refine Y.ae ((some af),ac,(some a0),ad,b,List.take (Int.toNat ((op.length:Int) - 1)) op) ⟨by have hn:=aGy hD (by rw [show op.length - 1=Int.toNat ((op.length:Int) - 1) by omega];exact a8) ((ak).trans (congrArg some (by assumption)));rw [show op.length - 1=Int.toNat ((op.length:Int) - 1) by omega] at hn;exact hn,by simp only [List.length_take];omega⟩ (by simp only [List.length_take];omega) (.c .g4 (.c (.s16 .g4) (.c (.s16 .g5) (.c (.s16 .g6) .n)))) (fun _ h=>h.sel (.c .z (.c .z .n)))
 refine Y.skip (Y.g (Y.seq (Y.region (Y.mv rfl (.s16 .g4) (Y.mv rfl .g11 ?_)))))
 refine Y.ql rfl (aB (j:=Int.toNat x8) rfl xP yU (.t .g1) (.t .z) (by omega) (by first | omega |(simp <;> omega) |(simp <;> omega))) ?_
 refine Y.add (c:=aH zL true [.bool true]) (fun _ _=>⟨rfl,trivial⟩) ?_
 refine Y.es (aE rfl) rfl (oV (j:=Int.toNat x8) rfl yU (.t .z) .c rfl (.c .g2 (.c .z .n)) (by first | omega |(simp <;> omega) |(simp <;> omega))) ?_
 have al:b.length=(List.set b (Int.toNat x8) true).length:=(List.length_set ..).symm
 refine Y.eq .g2 (congrArg (fun z_=>(.slice (some af) z_ ac:Value)) al) ?_
 refine Y.eq .g6 (congrArg (fun z_=>(.slice (some af) z_ ac:Value)) al) ?_
 refine Y.eq (.s16 .g7) (congrArg (fun z_=>(.slice (some af) z_ ac:Value)) al) ?_
 refine Y.ak .z (congrArg (fun z_=>(aH sG (List.set b (Int.toNat x8) true) [.slice (some af) z_ ac]:Asn)) al) ?_
 refine Y.nt (Y.seq (Y.region (Y.mv rfl (.s16 .g9) (Y.mv rfl .g15 ?_))))
 obtain⟨bh,ap,aq⟩:=b5 (by omega)
 subst ap
 obtain⟨ai,aj⟩:=aK (xs:=xs) (j:=Int.toNat x8) (by first | omega |(simp <;> omega) |(simp <;> omega))
 obtain⟨bu,a1,a2,a3⟩:=aq.elem aj
 obtain⟨bi,bj,rfl,ar,au⟩:=bY a1
 obtain⟨bk,bm,rfl,a9,ba,bb,bc⟩:=aD ar
 obtain⟨av,aw,rfl,bd,be,bf,am⟩:=aD au
 have cd:=cO (i:=x8) aj (by omega)
 have ce:=cP (a:=x8) aj (by omega)
 have ah:=dM hI _ (List.mem_of_getElem? aj)
 refine Y.ql rfl (aB (j:=Int.toNat x8) rfl cQ aT (.t .g1) (.t .z) (by omega) (by first | omega |(simp <;> omega) |(simp <;> omega))) ?_
 refine Y.fa rfl .z bL (Y.le rfl dX .z a2 a3 (Y.ql rfl (bD rfl dP (.t .z)) (Y.ql rfl (aR rfl .c) (Y.nt (Y.block ?_)))))
 have an:List.take (Int.toNat ((op.length:Int) - 1)) op=List.take (Int.toNat ((op.length:Int) - 1)) op++lB ai.ents 0:=(aIq _ _)
 refine Y.eq .g15 (congrArg (fun z_=>(.slice (some a0) ((z_).length) ad:Value)) an) ?_
 refine Y.eq .g16 (congrArg (fun z_=>(.slice (some a0) ((z_).length) ad:Value)) an) ?_
 refine Y.eq (.s16 .g1) (congrArg (fun z_=>(.int .i64 (((z_).length:Nat):Int):Value)) an) ?_
 refine Y.ak .g1 (congrArg (fun z_=>(aH bK (z_) [.slice (some a0) ((z_).length) ad]:Asn)) an) ?_
 refine Y.ai (γ:=Nat×(Option Addr)×Nat) (fun⟨k,aa,ab⟩=> [(6,.slice aa (List.take (Int.toNat ((op.length:Int) - 1)) op++lB ai.ents k).length ab),(45,.int .i64 (k:Int)),(44,.int .i64 (ai.ents.length:Int)),(43,.slice av ai.ents.length aw),(5,.slice (some af) (List.set b (Int.toNat x8) true).length ac),(4,.slice none 0 0),(0,.slice (some bh) xs.length c0)]) (fun⟨k,aa,ab⟩=> [aH bK (List.take (Int.toNat ((op.length:Int) - 1)) op++lB ai.ents k) [.slice aa (List.take (Int.toNat ((op.length:Int) - 1)) op++lB ai.ents k).length ab],aH sG (List.set b (Int.toNat x8) true) [.slice (some af) (List.set b (Int.toNat x8) true).length ac]]) (fun⟨k,aa,ab⟩=>k≤ai.ents.length) (fun⟨k,aa,ab⟩=>ai.ents.length - k) (0,(some a0),ad) (Nat.zero_le _) (.c .g2 (.c .g3 (.c .g4 (.c .g5 (.c .g10 (.c (.s16 .g15) (.c (.s16 .g16) .n))))))) (fun _ h=>h.sel (.c .z (.c .z .n))) ?_
 rintro⟨k,aa,ab⟩ hk
 have hil:=tA (es:=ai.ents) (k:=k)
 have h6:=yP ah
 have htl:(List.take (Int.toNat ((op.length:Int) - 1)) op).length≤op.length:=by rw [List.length_take];omega
 refine Y.seq (Y.region (Y.ql rfl (dA rfl (.t .g1) (.t .g2)) (Y.nt (Y.seq ?_))))
 refine Y.u (.t .z) (fun cf=> ?_) (fun cf=> ?_)
 refine Y.skip (Y.g (Y.seq (Y.block (Y.seq (Y.region ?_)))))
 obtain⟨cg,ax,ay⟩:=am (by omega)
 subst ax
 obtain⟨bn,ao⟩:=aK (xs:=ai.ents) (j:=k) (by first | omega |(simp <;> omega) |(simp <;> omega))
 obtain⟨bv,a4,a5,a6⟩:=ay.elem ao
 obtain⟨rfl,bo⟩:=eY a4
 have bw:=aBh (hG _ _ aj _ _ ao)
 have bx:=oN ah _ _ ao
 refine Y.ql rfl (aB (j:=k) rfl dP fA (.t .g4) (.t .g2) rfl (by first | omega |(simp <;> omega) |(simp <;> omega))) ?_
 refine Y.ql rfl (qE rfl tG (.t .z) a5 a6 fA) ?_
 refine Y.el rfl (bB rfl aD8 rfl rfl) ?_
 rintro _ _ ⟨g26,rfl,rfl⟩
 refine Y.es (aE rfl) rfl (esW rfl (.t .z) (.t .g1) .z fA rfl rfl) ?_
 refine Y.nt (Y.region (Y.mv rfl .g4 (Y.fa rfl .g1 gG (Y.ld rfl bP .z .z ?_))))
 refine Y.el rfl (aQ (cs:= [.int .i64 bn.ino]) rfl eF (inz gI) (by decide) (pv1 (.t .z)) rfl rfl (by decide) rfl rfl) ?_
 rintro _ _ ⟨g27,rfl,rfl⟩
 refine Y.add (c:=aH (gS .i64) bn.ino [.int .i64 bn.ino]) (fun _ _=>⟨rfl,trivial⟩) ?_
 refine Y.el rfl (dK rfl eF gI rfl (.t .g3) (.t .z) (.c .g3 (.c .g1 (.c .z .n))) (by first | omega |(simp only [List.length_append,List.length_take,List.length_cons,List.length_nil];omega)) (by first | omega |(simp only [List.length_append,List.length_take,List.length_cons,List.length_nil];omega))) ?_
 rintro _ _ rfl
 refine Y.ah .z (aHa ao) ?_
 refine Y.h (WS.a .z) ?_
 rintro⟨bp,bq,rfl,bz,b0,b1⟩
 refine Y.er .g9 (Y.as rfl .z (Y.nil (Y.ab (Y.g (Y.region ?_)))))
 refine Y.ql rfl (bN (c:=((k+1:Nat):Int)) rfl (.t .g10) .c (wr (by omega) (by omega) (by omega))) ?_
 refine Y.er .g11 (Y.mv rfl .z (Y.nil ?_))
 refine Y.ae ((k+1),bp,bq) (by omega) (by first | omega |(dsimp only;omega)) (.c .g2 (.c .z (.c .g12 (.c .g13 (.c .g14 (.c .g15 (.c .g16 .n))))))) (fun _ h=>h.sel (.c .z (.c .g1 .n)))
 refine Y.exit (Y.y (Y.y (Y.ag (Y.ab ?_))))
 refine Y.ae ((some af),ac,aa,ab,List.set b (Int.toNat x8) true,List.take (Int.toNat ((op.length:Int) - 1)) op++lB ai.ents k) ⟨by have hn:=aJg (k:=k) hI hG hD (by rw [show op.length - 1=Int.toNat ((op.length:Int) - 1) by omega];exact a8) aj (by omega);rw [show op.length - 1=Int.toNat ((op.length:Int) - 1) by omega] at hn;exact hn,by have ho:=xA (aH3 (b:=b) (j:=Int.toNat x8) (by omega) (fun hon=>absurd ((ak).symm.trans hon) (by rw [show bt=false by assumption];decide)));have h6:=yP ah;have hl:=tA (es:=ai.ents) (k:=k);simp only [List.length_append,List.length_take];omega⟩ (by have ho:=xA (aH3 (b:=b) (j:=Int.toNat x8) (by omega) (fun hon=>absurd ((ak).symm.trans hon) (by rw [show bt=false by assumption];decide)));have h6:=yP ah;have hl:=tA (es:=ai.ents) (k:=k);simp only [List.length_append,List.length_take];omega) (.c .g1 (.c .g5 (.c .g6 (.c .g7 .n)))) (fun _ h=>h.sel (.c .z (.c .z .n)))
 refine Y.exit (Y.y (Y.y (Y.ag (Y.g (Y.seq (Y.region (Y.ql rfl (aA rfl .c) (Y.nil ?_))))))))
 refine Y.g (Y.seq (Y.seq (Y.region (Y.mv rfl .g5 (Y.ql rfl (bD rfl xP (.t .z)) (Y.ql rfl (aR rfl .c) (Y.nt ?_)))))))
 refine Y.block ?_
 refine Y.add (c:=aH bK [] [.slice none 0 0]) (fun w S=>aL w S none) ?_
 refine Y.ai (γ:=Nat×(Option Addr)×Nat) (fun⟨k,aa,ab⟩=> [(57,.int .i64 (k:Int)),(56,.int .i64 (b.length:Int)),(55,.slice ae b.length ac),(10,.slice aa (cV (onP b) k).length ab),(4,.slice none 0 0)]) (fun⟨k,aa,ab⟩=> [aH bK (cV (onP b) k) [.slice aa (cV (onP b) k).length ab],aH bK op [.slice ag op.length ad],aH sG b [.slice ae b.length ac]]) (fun⟨k,aa,ab⟩=>k≤b.length) (fun⟨k,aa,ab⟩=>b.length - k) (0,none,0) (Nat.zero_le _) (.c .z (.c .g1 (.c .g2 (.c .g3 (.c .g9 .n))))) (fun _ h=>h.sel (.c .z (.c .z (.c .z .n)))) ?_
 rintro⟨k,aa,ab⟩ hk
 have hpl:=nM (p:=(onP b)) (k:=k)
 refine Y.seq (Y.region (Y.ql rfl (dA rfl (.t .z) (.t .g1)) (Y.nt (Y.seq ?_))))
 refine Y.u (.t .z) (fun ch=> ?_) (fun ch=> ?_)
 refine Y.skip (Y.g (Y.seq (Y.block (Y.seq (Y.region (Y.mv rfl .g1 ?_))))))
 refine Y.h (WS.h .g2 (by first | omega |(simp <;> omega) |(simp <;> omega))) ?_
 rintro⟨ci,rfl⟩
 refine Y.ql rfl (aB (j:=k) rfl xP yU (.t .g4) (.t .g2) rfl (by first | omega |(simp <;> omega) |(simp <;> omega))) ?_
 obtain⟨ct,az⟩:=aK (xs:=b) (j:=k) (by first | omega |(simp <;> omega) |(simp <;> omega))
 refine Y.ql rfl (aM rfl aI6 (.t .z) (WS.m .g2 az)) (Y.as rfl .g2 (Y.as rfl .g1 (Y.nt (Y.seq (Y.region (Y.mv rfl .z (Y.nil ?_)))))))
 refine Y.g ?_
 refine Y.cond (.t .z) (fun cj=> ?_) (fun cj=> ?_)
 refine Y.region (Y.mv rfl .g10 (Y.mv rfl .g3 ?_))
 refine Y.el rfl (aQ (cs:= [.int .i64 (k:Int)]) rfl eF (inz gI) (by decide) (pv1 (.t .z)) rfl rfl (by decide) rfl rfl) ?_
 rintro _ _ ⟨g35,rfl,rfl⟩
 refine Y.add (c:=aH (gS .i64) (k:Int) [.int .i64 (k:Int)]) (fun _ _=>⟨rfl,trivial⟩) ?_
 refine Y.el rfl (dK rfl eF gI rfl (.t .g2) (.t .z) (.c .g2 (.c .g1 (.c .z .n))) (by first | omega |(simp only [List.length_append,List.length_take,List.length_cons,List.length_nil];omega)) (by first | omega |(simp only [List.length_append,List.length_take,List.length_cons,List.length_nil];omega))) ?_
 rintro _ _ rfl
 refine Y.ah .z (oM (by rw [aA6 az];assumption)) ?_
 refine Y.h (WS.a .z) ?_
 rintro⟨br,bs,rfl,b2,b3,b4⟩
 refine Y.er .g14 (Y.as rfl .z (Y.nil (Y.ab (Y.g (Y.region ?_)))))
 refine Y.ql rfl (bN (c:=((k+1:Nat):Int)) rfl (.t .g12) .c (wr (by omega) (by omega) (by omega))) ?_
 refine Y.er .g13 (Y.mv rfl .z (Y.nil ?_))
 refine Y.ae ((k+1),br,bs) (by omega) (by first | omega |(dsimp only;omega)) (.c .z (.c .g14 (.c .g15 (.c .g2 (.c .g16 .n))))) (fun _ h=>h.sel (.c .z (.c .z (.c .z .n))))
 refine Y.skip (Y.ab (Y.g (Y.region ?_)))
 refine Y.ql rfl (bN (c:=((k+1:Nat):Int)) rfl (.t .g7) .c (wr (by omega) (by omega) (by omega))) ?_
 refine Y.er .g8 (Y.mv rfl .z (Y.nil ?_))
 have a7:cV (onP b) k=cV (onP b) (k+1):=(kL (by rw [aA6 az];assumption))
 refine Y.eq .g11 (congrArg (fun z_=>(.slice aa (z_).length ab:Value)) a7) ?_
 refine Y.ak .z (congrArg (fun z_=>(aH bK (z_) [.slice aa (z_).length ab]:Asn)) a7) ?_
 refine Y.ae ((k+1),aa,ab) (by omega) (by first | omega |(dsimp only;omega)) (.c .g1 (.c .g10 (.c .g11 (.c .z (.c .g12 .n))))) (fun _ h=>h.sel (.c .z (.c .z (.c .z .n))))
 refine Y.exit (Y.y (Y.y (Y.ag (Y.g (Y.seq (Y.region (Y.mv rfl .g4 (Y.er .g6 ?_))))))))
 refine Y.as rfl .z (Y.nt (Y.ret ?_))
 refine Y.ah (x':=lE xs a.toNat) .z (wU (aJl hD (by omega)) hD.len (by omega)) ?_
 refine Y.i (aU rfl .z) (.c .z .n) ?_
 rfl

theorem aOs {w0:World}{S0:Bs}{f:DFs}{az:Addr} (h0:eV dV w0 (FF w0 S0) az f) (ht:aX f=0):
    Calls Tryz.prog 71 #[.pointer (some az)] w0 (aI w0 S0 (fun r l=>l= [aH bK (lE f.inodes 0) [r]])):=by
 obtain⟨c2,a0,cg,a1⟩:=id h0
 obtain⟨ch,ci,rfl,bm,bn⟩:=bZ cg
 obtain⟨cj,ck,rfl,bx,bz,b1,a2⟩:=aD bm
 obtain⟨cm,cn,rfl,b2,b3,b4,b5⟩:=aD bn
 have hI:=hU ht
 have hG:=uH ht
 have h0:=yH ht
 refine Y.enter (N:=84) Tryz.func71 rfl rfl (by simp) [(0,.pointer (some az))] (by simp) (l0:= []) trivial ?_
 refine Y.seq (Y.region (Y.ql rfl (aA rfl .c) (Y.nt (Y.seq (Y.region (Y.mv rfl .g1 (Y.nc rfl .z ?_)))))))
 refine Y.fa rfl .z aP (Y.le rfl bR .z a0 a1 (Y.ql rfl (bD rfl cQ (.t .z)) ?_))
 refine Y.el rfl (lJ (n:=f.inodes.length) (x0:=false) rfl xP aJy rfl (fun _ _=>⟨rfl,trivial⟩) (.t .z) (.t .z) (by omega) (by omega)) ?_
 rintro _ _ rfl
 refine Y.h (WS.a .z) ?_
 rintro⟨c3,a3,rfl,co,cp,cq⟩
 refine Y.as rfl .z (Y.nt (Y.seq (Y.region (Y.mv rfl .z ?_))))
 refine Y.h (WS.h .z (by first | omega |(simp <;> omega) |(simp <;> omega))) ?_
 rintro⟨a4,rfl⟩
 refine Y.ql rfl (aB (j:=0) rfl xP yU (.t .z) .c rfl (by first | omega |(simp <;> omega) |(simp <;> omega))) ?_
 refine Y.add (c:=aH zL true [.bool true]) (fun _ _=>⟨rfl,trivial⟩) ?_
 refine Y.es (aE rfl) rfl (oV (j:=0) rfl yU (.t .z) .c rfl (.c .g1 (.c .z .n)) (by first | omega |(simp <;> omega) |(simp <;> omega))) ?_
 have bc:(List.replicate f.inodes.length false).length=(List.set (List.replicate f.inodes.length false) 0 true).length:=(List.length_set ..).symm
 refine Y.eq .g1 (congrArg (fun z_=>(.slice (some a4) z_ a3:Value)) bc) ?_
 refine Y.eq .g2 (congrArg (fun z_=>(.slice (some a4) z_ a3:Value)) bc) ?_
 refine Y.eq .g3 (congrArg (fun z_=>(.slice (some a4) z_ a3:Value)) bc) ?_
 refine Y.ak .z (congrArg (fun z_=>(aH sG (List.set (List.replicate f.inodes.length false) 0 true) [.slice (some a4) z_ a3]:Asn)) bc) ?_
 refine Y.nt (Y.seq (Y.seq (Y.region (Y.ql rfl (aA rfl .c) (Y.nt (Y.block ?_))))))
 refine Y.ai (γ:=Nat×(Option Addr)×Nat×(List Bool)) (fun⟨k,ab,ac,b0⟩=> [(4,.int .i64 (k:Int)),(3,.slice ab b0.length ac),(2,.slice none 0 0),(0,.pointer (some az))]) (fun⟨k,ab,ac,b0⟩=> [aH sG b0 [.slice ab b0.length ac]]) (fun⟨k,ab,ac,b0⟩=>k≤f.inodes.length∧Rnd f.inodes k b0) (fun⟨k,ab,ac,b0⟩=>f.inodes.length - k) (0,(some a4),a3,List.set (List.replicate f.inodes.length false) 0 true) ⟨Nat.zero_le _,aG0 (by omega)⟩ (.c .z (.c .g2 (.c .g10 (.c .g11 .n)))) (fun _ h=>h.sel (.c .z .n)) ?_
 rintro⟨k,ab,ac,b0⟩ ⟨hk,hR⟩
 have hbl:=hR.len
 refine Y.seq (Y.seq (Y.region (Y.mv rfl .z (Y.mv rfl .g4 (Y.nc rfl .z (Y.fa rfl .z aP (Y.le rfl bR .z a0 a1 (Y.ql rfl (bD rfl cQ (.t .z)) ?_))))))))
 refine Y.ql rfl (dA rfl (.t .g5) (.t .z)) (Y.nt ?_)
 refine Y.u (.t .z) (fun b8=> ?_) (fun b8=> ?_)
 refine Y.skip (Y.g (Y.seq (Y.block (Y.seq (Y.region (Y.ql rfl (aA rfl .c) (Y.nt ?_)))))))
 refine Y.block ?_
 refine Y.ai (γ:=Nat×(Option Addr)×Nat×(List Bool)) (fun⟨i,af,ag,b⟩=> [(5,.int .i64 (i:Int)),(4,.int .i64 (k:Int)),(3,.slice af b.length ag),(2,.slice none 0 0),(0,.pointer (some az))]) (fun⟨i,af,ag,b⟩=> [aH sG b [.slice af b.length ag]]) (fun⟨i,af,ag,b⟩=>i≤f.inodes.length∧Mid f.inodes b0 i b) (fun⟨i,af,ag,b⟩=>f.inodes.length - i) (0,ab,ac,b0) ⟨Nat.zero_le _,aHe hR⟩ (.c .z (.c .g8 (.c .g9 (.c .g10 (.c .g11 .n))))) (fun _ h=>h.sel (.c .z .n)) ?_
 rintro⟨i,af,ag,b⟩ ⟨hi,hM⟩
 have cr:=hM.len
 refine Y.seq (Y.seq (Y.region (Y.mv rfl .z (Y.mv rfl .g5 (Y.nc rfl .z (Y.fa rfl .z aP (Y.le rfl bR .z a0 a1 (Y.ql rfl (bD rfl cQ (.t .z)) ?_))))))))
 refine Y.ql rfl (dA rfl (.t .g5) (.t .z)) (Y.nt ?_)
 refine Y.u (.t .z) (fun b9=> ?_) (fun b9=> ?_)
 refine Y.skip (Y.g (Y.seq (Y.block (Y.seq (Y.region (Y.ql rfl (aA rfl .c) (Y.nt ?_)))))))
 refine Y.block ?_
 obtain⟨ct,aq,ar⟩:=a2 (by omega)
 subst aq
 obtain⟨bd,ah⟩:=aK (xs:=f.inodes) (j:=i) (by first | omega |(simp <;> omega) |(simp <;> omega))
 obtain⟨b6,a5,ao,ap⟩:=ar.elem ah
 obtain⟨bo,bp,rfl,au,av⟩:=bY a5
 obtain⟨bq,br,rfl,be,bf,bg,bh⟩:=aD au
 obtain⟨bs,bt,rfl,bi,bj,bk,ak⟩:=aD av
 have cu:=cO (i:=((i:Nat):Int)) ah (by omega)
 have cv:=cP (a:=((i:Nat):Int)) ah (by omega)
 have a6:=dM hI _ (List.mem_of_getElem? ah)
 refine Y.ai (γ:=Nat×(Option Addr)×Nat×(List Bool)) (fun⟨q,aj,aa,c⟩=> [(6,.int .i64 (q:Int)),(5,.int .i64 (i:Int)),(4,.int .i64 (k:Int)),(3,.slice aj c.length aa),(2,.slice none 0 0),(0,.pointer (some az))]) (fun⟨q,aj,aa,c⟩=> [aH sG c [.slice aj c.length aa]]) (fun⟨q,aj,aa,c⟩=>q≤bd.ents.length∧Inn f.inodes b0 i bd q c) (fun⟨q,aj,aa,c⟩=>bd.ents.length - q) (0,af,ag,b) ⟨Nat.zero_le _,aHk hM⟩ (.c .z (.c .g8 (.c .g9 (.c .g10 (.c .g11 (.c .g12 .n)))))) (fun _ h=>h.sel (.c .z .n)) ?_
 rintro⟨q,aj,aa,c⟩ ⟨hq,hN⟩
 have cw:=hN.mid.len
 refine Y.seq (Y.seq (Y.region (Y.mv rfl .g3 (Y.mv rfl .g2 ?_))))
 refine Y.h (WS.h .z (by first | omega |(simp <;> omega) |(simp <;> omega))) ?_
 rintro⟨ai,rfl⟩
 refine Y.ql rfl (aB (j:=i) rfl xP yU (.t .g1) (.t .z) rfl (by first | omega |(simp <;> omega) |(simp <;> omega))) ?_
 obtain⟨b7,al⟩:=aK (xs:=c) (j:=i) (by first | omega |(simp <;> omega) |(simp <;> omega))
 refine Y.ql rfl (aM rfl aI6 (.t .z) (WS.m .z al)) (Y.mv rfl .z ?_)
 refine Y.a2 .z (fun g17=> ?_) (fun g17=> ?_)
 refine Y.qg rfl rfl .z rfl rfl rfl (aR rfl (.t .g5)) ?_
 refine Y.qg rfl rfl .g1 rfl rfl rfl (aR rfl (.t .g11)) ?_
 refine Y.qg rfl rfl .g2 rfl rfl rfl (dZ rfl (.t .z)) ?_
 refine Y.qg rfl rfl .g3 rfl rfl rfl (aN rfl (.t .z) (fun _=>aP _ _)) ?_
 refine Y.qg rfl rfl .g4 rfl rfl rfl (aM rfl bR (.t .z) (WS.el a0 a1 rfl)) ?_
 refine Y.qg rfl rfl .g5 rfl rfl rfl (aR rfl (.t .g11)) ?_
 refine Y.qg rfl rfl .g6 rfl rfl rfl (aB (j:=i) rfl cQ aT (.t .g1) (.t .z) rfl (by first | omega |(simp <;> omega) |(simp <;> omega))) ?_
 refine Y.qg rfl rfl .g7 rfl rfl rfl (aN rfl (.t .z) (fun _=>bL _ _)) ?_
 refine Y.qg rfl rfl .g8 rfl rfl rfl (aM rfl dX (.t .z) (WS.el ao ap rfl)) ?_
 refine Y.qg rfl rfl .g9 rfl rfl rfl (bD rfl dP (.t .z)) ?_
 refine Y.qg rfl rfl .g10 rfl rfl rfl (dA rfl (.t .g9) (.t .z)) ?_
 refine Y.ql rfl (bI rfl (.t .g11) (.t .z)) (Y.nt ?_)
 refine Y.u (.t .z) (fun cx=> ?_) (fun cx=> ?_)
 refine Y.skip (Y.g (Y.seq (Y.block (Y.region (Y.mv rfl (.s16 .g4) (Y.mv rfl (.s16 .g7) (Y.nc rfl .z (Y.fa rfl .z aP ?_))))))))
 refine Y.le rfl bR .z a0 a1 (Y.mv rfl (.s16 .g7) ?_)
 refine Y.ql rfl (aB (j:=i) rfl cQ aT (.t .g1) (.t .z) rfl (by first | omega |(simp <;> omega) |(simp <;> omega))) ?_
 refine Y.fa rfl .z bL (Y.le rfl dX .z ao ap (Y.mv rfl (.s16 .g10) ?_))
 obtain⟨cy,aw,ax⟩:=ak (by omega)
 subst aw
 obtain⟨a7,am⟩:=aK (xs:=bd.ents) (j:=q) (by first | omega |(simp <;> omega) |(simp <;> omega))
 obtain⟨ca,a8,a9,ba⟩:=ax.elem am
 obtain⟨rfl,bu⟩:=eY a8
 have cb:=aBh (hG _ _ ah _ _ am)
 have cc:=oN a6 _ _ am
 refine Y.ql rfl (aB (j:=q) rfl dP fA (.t .g1) (.t .z) rfl (by first | omega |(simp <;> omega) |(simp <;> omega))) ?_
 refine Y.fa rfl .z gG (Y.le rfl bP .z a9 ba ?_)
 refine Y.ql rfl (aB (j:=Int.toNat a7.ino) rfl xP yU (.t .g12) (.t .z) (by omega) (by first | omega |(simp <;> omega) |(simp <;> omega))) ?_
 refine Y.add (c:=aH zL true [.bool true]) (fun _ _=>⟨rfl,trivial⟩) ?_
 refine Y.es (aE rfl) rfl (oV (j:=Int.toNat a7.ino) rfl yU (.t .z) .c rfl (.c .g1 (.c .z .n)) (by first | omega |(simp <;> omega) |(simp <;> omega))) ?_
 have an:c.length=(List.set c (Int.toNat a7.ino) true).length:=(List.length_set ..).symm
 refine Y.eq .g13 (congrArg (fun z_=>(.slice (some ai) z_ aa:Value)) an) ?_
 refine Y.eq (.s16 .g14) (congrArg (fun z_=>(.slice (some ai) z_ aa:Value)) an) ?_
 refine Y.eq (.s16 (.s16 .g2)) (congrArg (fun z_=>(.slice (some ai) z_ aa:Value)) an) ?_
 refine Y.ak .z (congrArg (fun z_=>(aH sG (List.set c (Int.toNat a7.ino) true) [.slice (some ai) z_ aa]:Asn)) an) ?_
 refine Y.nil (Y.ab (Y.g (Y.region (Y.mv rfl (.s16 .g16) ?_))))
 refine Y.ql rfl (bN (c:=((q+1:Nat):Int)) rfl (.t .z) .c (wr (by omega) (by omega) (by omega))) ?_
 refine Y.er (.s16 (.s16 .g2)) (Y.as rfl .z (Y.nil ?_))
 refine Y.ae ((q+1),(some ai),aa,List.set c (Int.toNat a7.ino) true) ⟨by omega,aH1 hN ah am ((al).trans (congrArg some (by assumption))) (by omega)⟩ (by first | omega |(dsimp only;omega)) (.c .z (.c (.s16 (.s16 .g3)) (.c (.s16 (.s16 .g4)) (.c .g3 (.c (.s16 (.s16 .g5)) (.c (.s16 (.s16 .g6)) .n)))))) (fun _ h=>h.sel (.c .z .n))
 refine Y.exit (Y.y (Y.y (Y.ag (Y.ab (Y.g (Y.region (Y.mv rfl (.s16 .g2) ?_)))))))
 refine Y.ql rfl (bN (c:=((i+1:Nat):Int)) rfl (.t .z) .c (wr (by omega) (by omega) (by omega))) ?_
 refine Y.er (.s16 .g4) (Y.as rfl .z (Y.nil ?_))
 refine Y.ae ((i+1),(some ai),aa,c) ⟨by omega,aBj hN ah (fun hon=>by first | omega |(exact absurd ((al).symm.trans hon) (by rw [show b7=false by assumption];decide)))⟩ (by first | omega |(dsimp only;omega)) (.c .z (.c (.s16 .g5) (.c (.s16 .g6) (.c (.s16 .g7) (.c (.s16 .g8) .n))))) (fun _ h=>h.sel (.c .z .n))
 refine Y.r rfl rfl .z rfl rfl (by decide) rfl ?_
 refine Y.r rfl rfl .g1 rfl rfl (by decide) rfl ?_
 refine Y.r rfl rfl .g2 rfl rfl (by decide) rfl ?_
 refine Y.r rfl rfl .g3 rfl rfl (by decide) rfl ?_
 refine Y.r rfl rfl .g4 rfl rfl (by decide) rfl ?_
 refine Y.r rfl rfl .g5 rfl rfl (by decide) rfl ?_
 refine Y.r rfl rfl .g6 rfl rfl (by decide) rfl ?_
 refine Y.r rfl rfl .g7 rfl rfl (by decide) rfl ?_
 refine Y.r rfl rfl .g8 rfl rfl (by decide) rfl ?_
 refine Y.r rfl rfl .g9 rfl rfl (by decide) rfl ?_
 refine Y.r rfl rfl .g10 rfl rfl (by decide) rfl ?_
 refine Y.ql rfl (bH rfl (.t .g11) .c) (Y.nt ?_)
 refine Y.ap (.t .z) ?_
 refine Y.exit (Y.y (Y.y (Y.ag (Y.ab (Y.g (Y.region (Y.mv rfl (.s16 .g2) ?_)))))))
 refine Y.ql rfl (bN (c:=((i+1:Nat):Int)) rfl (.t .z) .c (wr (by omega) (by omega) (by omega))) ?_
 refine Y.er (.s16 .g4) (Y.as rfl .z (Y.nil ?_))
 refine Y.ae ((i+1),(some ai),aa,c) ⟨by omega,aBj hN ah (fun hon=>by first | omega |(exact absurd ((al).symm.trans hon) (by rw [show b7=false by assumption];decide)))⟩ (by first | omega |(dsimp only;omega)) (.c .z (.c (.s16 .g5) (.c (.s16 .g6) (.c (.s16 .g7) (.c (.s16 .g8) .n))))) (fun _ h=>h.sel (.c .z .n))
 refine Y.exit (Y.y (Y.y (Y.ag (Y.ab (Y.g (Y.region (Y.mv rfl .g8 ?_)))))))
 refine Y.ql rfl (bN (c:=((k+1:Nat):Int)) rfl (.t .z) .c (wr (by omega) (by omega) (by omega))) ?_
 refine Y.er .g10 (Y.as rfl .z (Y.nil ?_))
 refine Y.ae ((k+1),af,ag,b) ⟨by omega,aG3 hR hM (by omega)⟩ (by first | omega |(dsimp only;omega)) (.c .z (.c .g11 (.c .g12 (.c .g13 .n)))) (fun _ h=>h.sel (.c .z .n))
 refine Y.exit (Y.y (Y.y (Y.ag (Y.g (Y.seq (Y.region ?_))))))
 refine Y.el rfl (eA rfl eF (inz gI)) ?_
 rintro _ _ ⟨g24,rfl,rfl⟩
 refine Y.as rfl .z (Y.nt (Y.seq (Y.seq (Y.region (Y.ql rfl (aA rfl .c) (Y.nt ?_))))))
 refine Y.block ?_
 refine Y.add (c:=aH bK ([]:(List Int)) [.slice (some ⟨g24,0,none⟩) 0 0]) (fun w S=>aL w S _) ?_
 refine Y.ai (γ:=Nat×(Option Addr)×Nat) (fun⟨z,ad,ae⟩=> [(8,.int .i64 (z:Int)),(7,.slice ad (cV (onP b0) z).length ae),(3,.slice ab b0.length ac),(2,.slice none 0 0)]) (fun⟨z,ad,ae⟩=> [aH bK (cV (onP b0) z) [.slice ad (cV (onP b0) z).length ae],bV g24 2 1 0 [],aH sG b0 [.slice ab b0.length ac]]) (fun⟨z,ad,ae⟩=>z≤b0.length) (fun⟨z,ad,ae⟩=>b0.length - z) (0,(some ⟨g24,0,none⟩),0) (Nat.zero_le _) (.c .z (.c .g1 (.c .g11 (.c .g12 .n)))) (fun _ h=>h.sel (.c .z (.c .z (.c .z .n)))) ?_
 rintro⟨z,ad,ae⟩ hz
 have hpl:=nM (p:=(onP b0)) (k:=z)
 refine Y.seq (Y.seq (Y.region (Y.mv rfl .z (Y.mv rfl .g3 (Y.ql rfl (bD rfl xP (.t .z)) (Y.ql rfl (dA rfl (.t .g2) (.t .z)) (Y.nt ?_)))))))
 refine Y.u (.t .z) (fun cz=> ?_) (fun cz=> ?_)
 refine Y.skip (Y.g (Y.seq (Y.block (Y.seq (Y.region (Y.mv rfl .g6 (Y.mv rfl .g5 ?_)))))))
 refine Y.h (WS.h .g2 (by first | omega |(simp <;> omega) |(simp <;> omega))) ?_
 rintro⟨c0,rfl⟩
 refine Y.ql rfl (aB (j:=z) rfl xP yU (.t .g1) (.t .z) rfl (by first | omega |(simp <;> omega) |(simp <;> omega))) ?_
 obtain⟨c4,ay⟩:=aK (xs:=b0) (j:=z) (by first | omega |(simp <;> omega) |(simp <;> omega))
 refine Y.ql rfl (aM rfl aI6 (.t .z) (WS.m .g2 ay)) (Y.nt ?_)
 refine Y.cond (.t .z) (fun c1=> ?_) (fun c1=> ?_)
 refine Y.region (Y.mv rfl .g9 (Y.mv rfl .g9 ?_))
 refine Y.el rfl (aQ (cs:= [.int .i64 (z:Int)]) rfl eF (inz gI) (by decide) (pv1 (.t .z)) rfl rfl (by decide) rfl rfl) ?_
 rintro _ _ ⟨g30,rfl,rfl⟩
 refine Y.add (c:=aH (gS .i64) (z:Int) [.int .i64 (z:Int)]) (fun _ _=>⟨rfl,trivial⟩) ?_
 refine Y.el rfl (dK rfl eF gI rfl (.t .g2) (.t .z) (.c .g2 (.c .g1 (.c .z .n))) (by first | omega |(simp only [List.length_append,List.length_take,List.length_nil,List.length_cons];omega)) (by first | omega |(simp only [List.length_append,List.length_take,List.length_nil,List.length_cons];omega))) ?_
 rintro _ _ rfl
 refine Y.ah .z (oM (by rw [aA6 ay];assumption)) ?_
 refine Y.h (WS.a .z) ?_
 rintro⟨bv,bw,rfl,cd,ce,cf⟩
 refine Y.er .g13 (Y.as rfl .z (Y.nil (Y.ab (Y.g (Y.region (Y.mv rfl .g13 ?_))))))
 refine Y.ql rfl (bN (c:=((z+1:Nat):Int)) rfl (.t .z) .c (wr (by omega) (by omega) (by omega))) ?_
 refine Y.er .g15 (Y.as rfl .z (Y.nil ?_))
 refine Y.ae ((z+1),bv,bw) (by omega) (by first | omega |(dsimp only;omega)) (.c .z (.c .g3 (.c .g16 (.c (.s16 .g1) .n)))) (fun _ h=>h.sel (.c .z (.c .z (.c .z .n))))
 refine Y.skip (Y.ab (Y.g (Y.region (Y.mv rfl .g8 ?_))))
 refine Y.ql rfl (bN (c:=((z+1:Nat):Int)) rfl (.t .z) .c (wr (by omega) (by omega) (by omega))) ?_
 refine Y.er .g10 (Y.as rfl .z (Y.nil ?_))
 have bb:cV (onP b0) z=cV (onP b0) (z+1):=(kL (by rw [aA6 ay];assumption))
 refine Y.eq .g11 (congrArg (fun z_=>(.slice ad (z_).length ae:Value)) bb) ?_
 refine Y.ak .z (congrArg (fun z_=>(aH bK (z_) [.slice ad (z_).length ae]:Asn)) bb) ?_
 refine Y.ae ((z+1),ad,ae) (by omega) (by first | omega |(dsimp only;omega)) (.c .g1 (.c .z (.c .g12 (.c .g13 .n)))) (fun _ h=>h.sel (.c .z (.c .z (.c .z .n))))
 refine Y.exit (Y.y (Y.y (Y.ag (Y.g (Y.seq (Y.region (Y.mv rfl .g5 (Y.er .g8 ?_))))))))
 refine Y.as rfl .z (Y.nt (Y.ret ?_))
 refine Y.ah (x':=lE f.inodes 0) .z (wU (aI7 hR (by omega)) hR.len (by omega)) ?_
 refine Y.i (aU rfl .z) (.c .z .n) ?_
 rfl

end Go.Proofs.YtmejbfmhaoilmaaGreatDoor

/- What is proved: contracts of functions, one a function. No condition. -/
import Derived.Test.YtmejbfmhaoilmaaGreatDoorBase1
import Derived.Test.YtmejbfmhaoilmaaGreatDoorW91
import Derived.Test.YtmejbfmhaoilmaaGreatDoorPart2
import Derived.Test.YtmejbfmhaoilmaaGreatDoorBase2
namespace Go.Proofs.YtmejbfmhaoilmaaGreatDoor
open Go Go.RowKit
set_option linter.unusedVariables false
set_option linter.unusedSimpArgs false
set_option maxHeartbeats 1000000
set_option maxRecDepth 20000
theorem aNp {w0:World}{S0:Bs} (n:Nat) (hn:n≤7):
    Calls Tryz.prog 95 #[.slice none 0 0,.int .i64 (n:Int)] w0 (aI w0 S0 (fun r l=>l= [aH cT [] [r]])):=by
 refine Y.enter (N:=27) Tryz.func95 rfl rfl (by simp) [(0,.slice none 0 0),(1,.int .i64 (n:Int))] (by simp) (l0:= []) trivial ?_
 refine Y.seq (Y.region (Y.ql rfl (aA rfl .c) (Y.nt (Y.seq (Y.seq (Y.region (Y.mv rfl .g2 ?_)))))))
 refine Y.ql rfl (dA rfl (.t .z) .c) (Y.nt ?_)
 refine Y.u (.t .z) (fun b1=> ?_) (fun b1=> ?_)
 exfalso;omega
 refine Y.skip (Y.g (Y.seq (Y.seq (Y.region (Y.mv rfl .g4 (Y.mv rfl .g4 (Y.ql rfl (aJz rfl eQ (.t .z)) (Y.mv rfl .g6 ?_))))))))
 refine Y.ql rfl (bD rfl eQ (.t .z)) ?_
 refine Y.ql rfl (iT (c:=((0:Nat):Int) - 0) rfl (.t .g2) (.t .z) (wr (by omega) (by omega) (by omega))) ?_
 refine Y.ql rfl (iT (c:=(n:Int) - (((0:Nat):Int) - 0)) rfl (.t .g5) (.t .z) (wr (by omega) (by omega) (by omega))) ?_
 refine Y.er .g11 (Y.as rfl .z (Y.nt (Y.seq (Y.region (Y.mv rfl .z (Y.ql rfl (fI rfl (.t .z) .c) (Y.nil ?_)))))))
 refine Y.g ?_
 refine Y.u (.t .z) (fun b2=> ?_) (fun b2=> ?_)
 refine Y.region (Y.mv rfl .g13 (Y.mv rfl .g14 (Y.ql rfl (aJz rfl eQ (.t .z)) ?_)))
 refine Y.ql rfl (jJ (A:=none) (n:=0) (c:=0) (b:=0) rfl eQ mU (.t .g2) (.t .z) (by omega)) ?_
 refine Y.mv rfl .g6 ?_
 refine Y.eq .z (congrArg (Value.int .i64) (show(n:Int) - (((0:Nat):Int) - 0)=((n:Nat):Int) by omega)) ?_
 refine Y.el rfl (yT (K:=pQ) (x0:=(⟨#[]⟩:ByteArray)) rfl eQ u_3 jK rfl (fun _ _=>⟨rfl,by decide⟩) (.t .g1) (.t .z) (by omega) (by omega) (by omega)) ?_
 rintro _ _ rfl
 refine Y.h (WS.a .z) ?_
 rintro⟨aa,ab,rfl,ac,ad,ae⟩
 refine Y.mv rfl (.s16 .g3) (Y.ql rfl (bD rfl eQ (.t .z)) ?_)
 refine Y.h (WS.r .z) ?_
 rintro⟨-,ag, -, -⟩
 have af:(List.take 0 (List.replicate n (⟨#[]⟩:ByteArray))).length=0:=by rw [List.length_take];rw [List.length_replicate];omega
 refine Y.eq .z (congrArg (Value.int .i64) (show 0=(((List.take 0 (List.replicate n (⟨#[]⟩:ByteArray))).length:Nat):Int) by rw [af];try omega)) ?_
 refine Y.ad (c:=aH cT (List.take 0 (List.replicate n (⟨#[]⟩:ByteArray))) [.slice aa ((List.take 0 (List.replicate n (⟨#[]⟩:ByteArray))).length) ab]) (.c .z .n) (pG (by rw [List.length_replicate];omega)) ?_
 refine Y.ql rfl (jJ (b:=(List.take 0 (List.replicate n (⟨#[]⟩:ByteArray))).length) rfl eQ mU (.t .g2) (.t .z) (by omega)) ?_
 refine Y.er (.s16 .g6) (Y.as rfl .z (Y.nt (Y.seq (Y.region (Y.mv rfl .z (Y.er (.s16 .g7) (Y.as rfl .z ?_)))))))
 refine Y.nt (Y.ret ?_)
 refine Y.ah (x':= []) .z rfl ?_
 refine Y.i (aU rfl .z) (.c .z .n) ?_
 rfl
 refine Y.skip (Y.g (Y.seq (Y.region (Y.mv rfl .g13 (Y.er .g13 (Y.as rfl .z (Y.nt ?_)))))))
 refine Y.ret ?_
 refine Y.add (c:=aH cT [] [.slice none 0 0]) (fun w S=>aL w S none) ?_
 refine Y.i (aU rfl .z) (.c .z .n) ?_
 rfl

theorem aN2 {w0:World}{S0:Bs}{xss:(List (List ByteArray))}{v0:Value} (h0:aKw.ro w0 (FF w0 S0) xss [v0]) (hx:xss.flatten.length≤7):
    Calls Tryz.prog 67 #[v0] w0 (aI w0 S0 (fun r l=>l= [aH cT xss.flatten [r]])):=by
 obtain⟨A0,c0,rfl,bi,bj,bk,ar⟩:=aD h0
 refine Y.enter (N:=36) Tryz.func67 rfl rfl (by simp) [(0,.slice A0 xss.length c0)] (by simp) (l0:= []) trivial ?_
 refine Y.seq (Y.region (Y.ql rfl (aA rfl .c) (Y.nt (Y.seq (Y.region (Y.ql rfl (aA rfl .c) (Y.nil ?_)))))))
 refine Y.g (Y.seq (Y.seq (Y.region (Y.mv rfl .g2 (Y.ql rfl (bD rfl aCl (.t .z)) (Y.ql rfl (aR rfl .c) (Y.nt ?_)))))))
 refine Y.block ?_
 refine Y.ai (γ:=Nat) (fun k=> [(11,.int .i64 (k:Int)),(10,.int .i64 (xss.length:Int)),(9,.slice A0 xss.length c0),(3,.int .i64 ((List.take k xss).flatten.length:Int)),(2,.slice none 0 0),(0,.slice A0 xss.length c0)]) (fun k=> []) (fun k=>k≤xss.length) (fun k=>xss.length - k) 0 (Nat.zero_le _) (.c .z (.c .g1 (.c .g2 (.e .g3 (congrArg (Value.int .i64) (show(0:Int)=((List.take 0 xss).flatten.length:Int) from rfl)) (.c .g4 (.c .g5 .n)))))) (fun _ h=>h) ?_
 rintro k hk
 have hfl:=wR (xs:=xss) (k:=k)
 refine Y.seq (Y.region (Y.ql rfl (dA rfl (.t .z) (.t .g1)) (Y.nt (Y.seq ?_))))
 refine Y.u (.t .z) (fun b2=> ?_) (fun b2=> ?_)
 refine Y.skip (Y.g (Y.seq (Y.block (Y.seq (Y.region ?_)))))
 obtain⟨bm,ag,ah⟩:=ar (by omega)
 subst ag
 obtain⟨x4,al⟩:=aK (xs:=xss) (j:=k) (by omega)
 obtain⟨a3,ai,am,an⟩:=ah.elem al
 obtain⟨bn,rfl⟩:=lS ai
 obtain⟨bo,bp,rfl,a4,a5,a6,a7⟩:=aD ai
 have au:=aBq al
 refine Y.ql rfl (aB (j:=k) rfl aCl aHq (.t .g3) (.t .g1) rfl (by omega)) ?_
 refine Y.ql rfl (aM rfl rF (.t .z) (WS.i am an rfl)) (Y.as rfl .z (Y.nt (Y.seq (Y.region (Y.mv rfl .g7 (Y.mv rfl .g1 (Y.ql rfl (bD rfl eQ (.t .z)) ?_)))))))
 refine Y.ql rfl (bN (c:=((((List.take k xss).flatten.length)+x4.length:Nat):Int)) rfl (.t .g2) (.t .z) (wr (by omega) (by omega) (by omega))) ?_
 refine Y.er .g11 (Y.as rfl .z (Y.nt (Y.seq (Y.region (Y.mv rfl .z (Y.ql rfl (dA rfl (.t .z) .c) (Y.nil ?_)))))))
 refine Y.g ?_
 refine Y.u (.t .z) (fun b7=> ?_) (fun b7=> ?_)
 exfalso;omega
 refine Y.skip (Y.ab (Y.g (Y.region ?_)))
 refine Y.ql rfl (bN (c:=((k+1:Nat):Int)) rfl (.t .g11) .c (wr (by omega) (by omega) (by omega))) ?_
 refine Y.er .g12 (Y.mv rfl .z (Y.nil ?_))
 refine Y.ae (k+1) (by omega) (by first | omega |(dsimp only;omega)) (.c .z (.c .g13 (.c .g14 (.e .g4 (congrArg (Value.int .i64) (by rw [aHi al])) (.c .g15 (.c .g16 .n)))))) (fun _ h=>h)
 refine Y.exit (Y.y (Y.y (Y.ag (Y.g (Y.seq (Y.region (Y.mv rfl .g4 ?_)))))))
 refine Y.cl rfl rfl Tryz.func95 rfl rfl (aS .c (.t .z)) .n (fun _ _ hs tr=>aNp _ (by omega)) ?_
 rintro _ _ rfl
 refine Y.m (.c .n) ?_
 refine Y.h (WS.a .z) ?_
 rintro⟨a8,a9,rfl,ba,bb,bc⟩
 refine Y.as rfl .z (Y.nt (Y.seq (Y.seq (Y.region (Y.mv rfl .g9 (Y.ql rfl (bD rfl aCl (.t .z)) (Y.ql rfl (aR rfl .c) ?_)))))))
 refine Y.nt (Y.block ?_)
 refine Y.ai (γ:=Nat×(Option Addr)×Nat) (fun⟨q,aa,ab⟩=> [(27,.int .i64 (q:Int)),(26,.int .i64 (xss.length:Int)),(25,.slice A0 xss.length c0),(6,.slice aa ((List.take q xss).flatten).length ab),(2,.slice none 0 0)]) (fun⟨q,aa,ab⟩=> [aH cT ((List.take q xss).flatten) [.slice aa ((List.take q xss).flatten).length ab]]) (fun⟨q,aa,ab⟩=>q≤xss.length) (fun⟨q,aa,ab⟩=>xss.length - q) (0,a8,a9) (Nat.zero_le _) (.c .z (.c .g1 (.c .g2 (.c .g3 (.c .g11 .n))))) (fun _ h=>h.sel (.c .z .n)) ?_
 rintro⟨q,aa,ab⟩ hq
 have hfq:=wR (xs:=xss) (k:=q)
 refine Y.seq (Y.region (Y.ql rfl (dA rfl (.t .z) (.t .g1)) (Y.nt (Y.seq ?_))))
 refine Y.u (.t .z) (fun bd=> ?_) (fun bd=> ?_)
 refine Y.skip (Y.g (Y.seq (Y.block (Y.seq (Y.region ?_)))))
 obtain⟨be,ad,ae⟩:=ar (by omega)
 subst ad
 obtain⟨bq,af⟩:=aK (xs:=xss) (j:=q) (by omega)
 obtain⟨av,ac,aj,ak⟩:=ae.elem af
 obtain⟨bf,rfl⟩:=lS ac
 obtain⟨bg,bh,rfl,aw,ax,ay,az⟩:=aD ac
 have ao:=aBq af
 refine Y.ql rfl (aB (j:=q) rfl aCl aHq (.t .g3) (.t .g1) rfl (by omega)) ?_
 refine Y.ql rfl (aM rfl rF (.t .z) (WS.i aj ak rfl)) (Y.as rfl .z (Y.nt (Y.region (Y.mv rfl .g7 (Y.mv rfl .g1 ?_)))))
 refine Y.el rfl (eD (bT _ _ _) rfl eQ jK rfl (.t .g1) (.t .z) (.c .z .n) (fun w1 S1 tr=>tr.ctx ac) (by first | omega |(simp <;> omega)) (by first | omega |(simp <;> omega))) ?_
 rintro _ _ rfl
 refine Y.ah .z (aHz af) ?_
 refine Y.h (WS.a .z) ?_
 rintro⟨ap,aq,rfl,a0,a1,a2⟩
 refine Y.er .g10 (Y.as rfl .z (Y.nil (Y.ab (Y.g (Y.region ?_)))))
 refine Y.ql rfl (bN (c:=((q+1:Nat):Int)) rfl (.t .g8) .c (wr (by omega) (by omega) (by omega))) ?_
 refine Y.er .g9 (Y.mv rfl .z (Y.nil ?_))
 refine Y.ae ((q+1),ap,aq) (by omega) (by first | omega |(dsimp only;omega)) (.c .z (.c .g10 (.c .g11 (.c .g2 (.c .g12 .n))))) (fun _ h=>h.sel (.c .z .n))
 refine Y.exit (Y.y (Y.y (Y.ag (Y.g (Y.seq (Y.region (Y.mv rfl .g4 (Y.er .g6 ?_))))))))
 refine Y.as rfl .z (Y.nt (Y.ret ?_))
 refine Y.ah (x':=xss.flatten) .z (by rw [List.take_of_length_le (by omega)]) ?_
 refine Y.i (aU rfl .z) (.c .z .n) ?_
 rfl

theorem aM2 {w0:World}{S0:Bs}{f:DFs}{ah:Addr} (h0:eV dV w0 (FF w0 S0) ah f) (a:Int) {x:(List ByteArray)}{v2:Value} (h2:cT.ro w0 (FF w0 S0) x [v2]) {L:(List ByteArray)}{v3:Value} (hs:cI [aH cT L [v3]] w0 S0) (ht:aX f=0) (hp:bQ f.inodes.length a) (hok:∀s,s∈x→aV s=0) (d:Nat) (hd:x.length+d=6) (hL:L.length+cB d≤55986) (ih:∀(n':Nat),n'<d→∀{w0:World}{S0:Bs}{f:DFs}{ah:Addr} (h0:eV dV w0 (FF w0 S0) ah f) (a:Int) {x:List ByteArray}{v2:Value} (h2:cT.ro w0 (FF w0 S0) x [v2]) {L:List ByteArray}{v3:Value} (hs:cI [aH cT L [v3]] w0 S0) (ht:aX f=0) (hp:bQ f.inodes.length a) (hok:∀s,s∈x→aV s=0) (hd:x.length+n'=6) (hL:L.length+cB n'≤55986),Calls Tryz.prog 36 #[.pointer (some ah),.int .i64 a,v2,v3] w0 (aI w0 S0 (fun r l=>l= [aH cT (L++dW f.inodes n' a x) [r]]))):
    Calls Tryz.prog 36 #[.pointer (some ah),.int .i64 a,v2,v3] w0 (aI w0 S0 (fun r l=>l= [aH cT (L++dW f.inodes d a x) [r]])):=by
 obtain⟨ct,b8,b9,ca⟩:=id h0
 obtain⟨cb,cc,rfl,a2,a3⟩:=bZ b9
 obtain⟨cd,ce,rfl,bj,bk,bm,an⟩:=aD a2
 obtain⟨cf,cg,rfl,bn,bo,bp,bq⟩:=aD a3
 obtain⟨A2,c2,rfl,cu,cv,cw,cx⟩:=aD h2
 have hI:=hU ht
 obtain⟨cy,cz⟩:=hp
 refine Y.enter (N:=48) Tryz.func36 rfl rfl (by simp) [(0,.pointer (some ah)),(1,.int .i64 a),(2,.slice A2 x.length c2),(3,v3)] (by simp) hs ?_
 refine Y.h (WS.a .z) ?_
 rintro⟨a4,a5,rfl,ch,ci,cj⟩
 refine Y.seq (Y.region (Y.ql rfl (aA rfl .c) (Y.nt (Y.seq (Y.seq (Y.region (Y.mv rfl .g3 ?_)))))))
 refine Y.ql rfl (bD rfl eQ (.t .z)) (Y.ql rfl (bU rfl (.t .z) .c) (Y.nt ?_))
 refine Y.u (.t .z) (fun b5=> ?_) (fun b5=> ?_)
 refine Y.seq (Y.region (Y.mv rfl .g7 (Y.er .g4 (Y.as rfl .z (Y.nt (Y.ret (Y.j ?_)))))))
 refine Y.i (aU rfl .z) (.c .z .n) ?_
 have ao:d=0:=(by omega);subst ao;rw [show dW f.inodes 0 a x= [] from rfl,List.append_nil]
 have ao:0<d:=by omega
 refine Y.skip (Y.g (Y.seq (Y.seq (Y.region (Y.mv rfl .g4 (Y.nc rfl .z (Y.fa rfl .z aP (Y.le rfl bR .z b8 ca ?_))))))))
 refine Y.mv rfl .g9 ?_
 obtain⟨c0,ap,aq⟩:=an (by omega)
 subst ap
 obtain⟨x7,ar⟩:=aK (xs:=f.inodes) (j:=Int.toNat a) (by omega)
 obtain⟨ck,a6,a7,a8⟩:=aq.elem ar
 obtain⟨br,bs,rfl,au,av⟩:=bY a6
 obtain⟨bt,bu,rfl,a9,ba,bb,bc⟩:=aD au
 obtain⟨aw,ax,rfl,bd,be,bf,ai⟩:=aD av
 have c1:=cO (i:=a) ar (by omega)
 have bv:=cP (a:=a) ar (by omega)
 have c3:=dL (a:=a) ar (by omega)
 have c4:=mR (a:=a) ar (by omega)
 refine Y.ql rfl (aB (j:=Int.toNat a) rfl cQ aT (.t .g1) (.t .z) (by omega) (by omega)) ?_
 refine Y.fa rfl .z bL (Y.le rfl dX .z a7 a8 (Y.ql rfl (bD rfl dP (.t .z)) (Y.ql rfl (aR rfl .c) (Y.nt (Y.block ?_)))))
 have aj:L=L++iK f.inodes d a x 0:=(by rw [aOm,List.append_nil])
 refine Y.ah .z aj ?_
 refine Y.ak .z (congrArg (fun z_:Nat=>(aH cT (L++iK f.inodes d a x 0) [.slice a4 z_ a5]:Asn)) (congrArg List.length aj)) ?_
 refine Y.eq (.s16 .g1) (congrArg (fun z_:Nat=>(.slice a4 z_ a5:Value)) (congrArg List.length aj)) ?_
 refine Y.ai (γ:=Nat×(Option Addr)×Nat) (fun⟨k,ab,ac⟩=> [(3,.slice ab (L++iK f.inodes d a x k).length ac),(25,.int .i64 (k:Int)),(24,.int .i64 (x7.ents.length:Int)),(23,.slice aw x7.ents.length ax),(8,.slice none 0 0),(0,.pointer (some ah)),(2,.slice A2 x.length c2)]) (fun⟨k,ab,ac⟩=> [aH cT (L++iK f.inodes d a x k) [.slice ab (L++iK f.inodes d a x k).length ac]]) (fun⟨k,ab,ac⟩=>k≤x7.ents.length) (fun⟨k,ab,ac⟩=>x7.ents.length - k) (0,a4,a5) (Nat.zero_le _) (.c .z (.c .g1 (.c .g2 (.c .g3 (.c .g14 (.c .g15 (.c (.s16 .g1) .n))))))) (fun _ h=>h.sel (.c .z .n)) ?_
 rintro⟨k,ab,ac⟩ hk
 refine Y.seq (Y.region (Y.ql rfl (dA rfl (.t .g1) (.t .g2)) (Y.nt (Y.seq ?_))))
 refine Y.u (.t .z) (fun cm=> ?_) (fun cm=> ?_)
 refine Y.skip (Y.g (Y.seq (Y.block (Y.seq (Y.region ?_)))))
 obtain⟨cn,ak,al⟩:=ai (by omega)
 subst ak
 obtain⟨ad,ay⟩:=aK (xs:=x7.ents) (j:=k) (by omega)
 obtain⟨bw,az,a0,a1⟩:=al.elem ay
 obtain⟨rfl,bg⟩:=eY az
 have aa:(aG f.inodes a)[k]? =some ad:=by rw [bv];exact ay
 have am:=yA ht aa
 have bh:=pK ht aa
 have hn4x14:=(oU am).1
 have bi:=aEq (d:=d) (a:=a) (ns:=x) hI ao (List.getElem?_eq_some_iff.1 aa).1
 refine Y.ql rfl (aB (j:=k) rfl dP fA (.t .g4) (.t .g2) rfl (by omega)) ?_
 refine Y.ql rfl (qE rfl tG (.t .z) a0 a1 fA) ?_
 refine Y.el rfl (bB rfl aD8 rfl rfl) ?_
 rintro _ _ ⟨g16,rfl,rfl⟩
 refine Y.es (aE rfl) rfl (esW rfl (.t .z) (.t .g1) .z fA rfl rfl) ?_
 refine Y.nt (Y.seq (Y.region (Y.mv rfl .g10 (Y.fa rfl .g1 kM (Y.ld rfl iH .z .z ?_)))))
 refine Y.el rfl (aQ (cs:= [.string ad.name]) rfl eQ (inz jK) (by decide) (pv1 (.t .z)) rfl rfl (by decide) rfl rfl) ?_
 rintro _ _ ⟨g17,rfl,rfl⟩
 refine Y.el rfl (aQ (cs:= [.slice A2 x.length c2,.slice (some ⟨g17,0,none⟩) 1 1]) rfl aCl (inz aK0) (by decide) (pv2 (.t .g3) (.t .z)) rfl rfl (by decide) rfl rfl) ?_
 rintro _ _ ⟨g18,rfl,rfl⟩
 refine Y.ad (c:=aH cT ([ad.name]:(List ByteArray)) [.slice (some ⟨g17,0,none⟩) 1 1]) (.c .g1 .n) (fun w S h=>fS (xs:=([ad.name]:(List ByteArray))) h rfl (by intro z_ hz_;obtain rfl:=List.mem_singleton.1 hz_;first | assumption | omega |(have:=mD (sA hok (by assumption));simp only [List.length_append,List.length_cons,List.length_nil] at this;omega)) (by omega) (by omega)) ?_
 refine Y.cl rfl rfl Tryz.func67 rfl rfl (bG (.t .z)) .n (fun _ _ hs tr=>aN2 (tr.lit2 .g1 rfl (tr.ctx h2) (tr.own .z) (by decide)) (by simp;omega)) ?_
 rintro _ _ rfl
 refine Y.m (.c .n) ?_
 refine Y.ah (x':=x++ [ad.name]) .z (by simp) ?_
 refine Y.h (WS.a .z) ?_
 rintro⟨co,cp,rfl,bx,bz,b0⟩
 refine Y.as rfl .z (Y.nt (Y.seq (Y.region (Y.mv rfl .g11 (Y.mv rfl .g1 ?_)))))
 refine Y.cl rfl rfl Tryz.func68 rfl rfl (bG (.t .z)) .n (fun _ _ hs tr=>aOb (tr.own .z) (by exact sA hok (by assumption)) (by simp only [List.length_append,List.length_cons,List.length_nil];omega)) ?_
 rintro _ _ ⟨rfl,rfl⟩
 refine Y.m .n ?_
 refine Y.el rfl (aQ (cs:= [.string (jD (x++ [ad.name]))]) rfl eQ (inz jK) (by decide) (pv1 (.t .z)) rfl rfl (by decide) rfl rfl) ?_
 rintro _ _ ⟨g22,rfl,rfl⟩
 refine Y.add (c:=aH pQ (jD (x++ [ad.name])) [.string (jD (x++ [ad.name]))]) (fun _ _=>⟨rfl,by first | assumption | omega |(have:=mD (sA hok (by assumption));simp only [List.length_append,List.length_cons,List.length_nil] at this;omega)⟩) ?_
 refine Y.el rfl (dK rfl eQ jK rfl (.t .g3) (.t .z) (.c .g6 (.c .g1 (.c .z .n))) (by first | omega |(simp <;> omega)) (by first | omega |(simp <;> omega))) ?_
 rintro _ _ rfl
 refine Y.h (WS.a .z) ?_
 rintro⟨cq,cr,rfl,b1,b2,b3⟩
 refine Y.er .g16 (Y.as rfl .z (Y.nt (Y.region (Y.mv rfl (.s16 .g5) (Y.fa rfl .g14 gG (Y.ld rfl bP .z .g4 (Y.mv rfl .g9 ?_)))))))
 refine Y.mv rfl .g4 ?_
 refine Y.cl rfl rfl Tryz.func36 rfl rfl (pD (.t .g4) (.t .g2) (.t .g1) (.t .z)) (.c .z .n) (fun _ _ hs tr=>ih (d - 1) (by omega) (tr.ctxP h0) _ (tr.own .z) hs (by assumption) (by first | assumption | exact kA ht) (by first | exact sA hok (by assumption) | simp) (by first | rfl | omega |(simp <;> omega)) (by first | omega |(simp <;> omega) |(have:=aCa (Nat.le_refl 6);simp only [List.length_nil];omega))) ?_
 rintro _ _ rfl
 refine Y.m (.c .n) ?_
 refine Y.h (WS.a .z) ?_
 rintro⟨ae,af,rfl,b4,b6,b7⟩
 refine Y.er .g6 (Y.as rfl .z (Y.nil (Y.ab (Y.g (Y.region ?_)))))
 refine Y.ql rfl (bN (c:=((k+1:Nat):Int)) rfl (.t (.s16 .g7)) .c (wr (by omega) (by omega) (by omega))) ?_
 refine Y.er (.s16 .g8) (Y.mv rfl .z (Y.nil ?_))
 have ag:((L++iK f.inodes d a x k)++ [jD (x++ [ad.name])])++dW (f).inodes (d - 1) ad.ino (x++ [ad.name])=L++iK f.inodes d a x (k+1):=(by rw [aK6 ao aa];simp)
 refine Y.ah .z ag ?_
 refine Y.ak .z (congrArg (fun z_:Nat=>(aH cT (L++iK f.inodes d a x (k+1)) [.slice ae z_ af]:Asn)) (congrArg List.length ag)) ?_
 refine Y.eq .g2 (congrArg (fun z_:Nat=>(.slice ae z_ af:Value)) (congrArg List.length ag)) ?_
 refine Y.eq .g3 (congrArg (fun z_:Nat=>(.slice ae z_ af:Value)) (congrArg List.length ag)) ?_
 refine Y.ae ((k+1),ae,af) (by omega) (by first | omega |(dsimp only;omega)) (.c .g1 (.c .g2 (.c (.s16 .g9) (.c (.s16 .g10) (.c (.s16 .g11) (.c (.s16 .g12) (.c (.s16 .g13) .n))))))) (fun _ h=>h.sel (.c .z .n))
 refine Y.exit (Y.y (Y.y (Y.ag (Y.g (Y.seq (Y.region (Y.mv rfl .g1 (Y.er .g6 ?_))))))))
 refine Y.as rfl .z (Y.nt (Y.ret ?_))
 refine Y.i (aU rfl .z) (.c .z .n) ?_
 rw [←aDv (k:=k) (.inr ⟨ao,by rw [bv];omega⟩)]
theorem aOx {w0:World}{S0:Bs}{f:DFs}{ad0:Addr} (h0:eV dV w0 (FF w0 S0) ad0 f) (a:Int) {x:List ByteArray}{v2:Value} (h2:cT.ro w0 (FF w0 S0) x [v2]) {L:List ByteArray}{v3:Value} (hs:cI [aH cT L [v3]] w0 S0) (ht:aX f=0) (hp:bQ f.inodes.length a) (hok:∀s,s∈x→aV s=0) (d:Nat) (hd:x.length+d=6) (hL:L.length+cB d≤55986):Calls Tryz.prog 36 #[.pointer (some ad0),.int .i64 a,v2,v3] w0 (aI w0 S0 (fun r l=>l= [aH cT (L++dW f.inodes d a x) [r]])):=by
 have key:∀n:Nat,∀{w0:World}{S0:Bs}{f:DFs}{ad0:Addr} (h0:eV dV w0 (FF w0 S0) ad0 f) (a:Int) {x:List ByteArray}{v2:Value} (h2:cT.ro w0 (FF w0 S0) x [v2]) {L:List ByteArray}{v3:Value} (hs:cI [aH cT L [v3]] w0 S0) (ht:aX f=0) (hp:bQ f.inodes.length a) (hok:∀s,s∈x→aV s=0) (hd:x.length+n=6) (hL:L.length+cB n≤55986),Calls Tryz.prog 36 #[.pointer (some ad0),.int .i64 a,v2,v3] w0 (aI w0 S0 (fun r l=>l= [aH cT (L++dW f.inodes n a x) [r]])):=fun n=>by
  induction n using Nat.strongRecOn with
  | _ n ih=>exact fun h0 a _ _ h2 _ _ hs ht hp hok hd hL=>aM2 h0 a h2 hs ht hp hok n hd hL ih
 exact key d h0 a h2 hs ht hp hok hd hL

theorem aOo {w0:World}{S0:Bs}{f:DFs}{aa:Addr} (h0:eV dV w0 (FF w0 S0) aa f) (ht:aX f=0):
    Calls Tryz.prog 17 #[.pointer (some aa)] w0 (aI w0 S0 (fun r l=>l= [aH cT (List.take 60 (dW f.inodes 6 0 [])) [r]])):=by
 obtain⟨a0,a1,al,a2⟩:=id h0
 obtain⟨am,an,rfl,ab,ac⟩:=bZ al
 obtain⟨ao,ap,rfl,ad,ae,af,ag⟩:=aD ab
 obtain⟨aq,ar,rfl,ah,ai,aj,ak⟩:=aD ac
 have hcb:=xY (hU ht) 6 0 []
 have a3:=aCa (Nat.le_refl 6)
 refine Y.enter (N:=11) Tryz.func17 rfl rfl (by simp) [(0,.pointer (some aa))] (by simp) (l0:= []) trivial ?_
 refine Y.seq (Y.region (Y.ql rfl (aA rfl .c) (Y.nt (Y.seq (Y.region (Y.mv rfl .g1 ?_))))))
 refine Y.add (c:=aH cT [] [.slice none 0 0]) (fun w S=>aL w S none) ?_
 refine Y.cl rfl rfl Tryz.func36 rfl rfl (pD (.t .z) .c .c .c) (.c .z .n) (fun _ _ hs tr=>aOx (tr.ctxP h0) _ lF hs (by assumption) (by first | assumption | exact kA ht) (by first | exact sA hok (by assumption) | simp) 6 (by first | rfl | omega |(simp <;> omega)) (by first | omega |(simp <;> omega) |(have:=aCa (Nat.le_refl 6);simp only [List.length_nil];omega))) ?_
 rintro _ _ rfl
 refine Y.m (.c .n) ?_
 refine Y.ah (x':=dW (f).inodes 6 0 ([])) .z (List.nil_append _) ?_
 refine Y.h (WS.a .z) ?_
 rintro⟨au,av,rfl,aw,ax,ay⟩
 refine Y.as rfl .z (Y.nt (Y.seq (Y.region (Y.mv rfl .z (Y.mv rfl .g1 (Y.ql rfl (bD rfl eQ (.t .z)) ?_))))))
 have a4:=jH ((dW (f).inodes 6 0 ([])).length:Int) 60
 refine Y.ql rfl (aJ1 rfl (.t .z) .c) ?_
 refine Y.h (WS.r .z) ?_
 rintro⟨-,a5, -, -⟩
 have az:(List.take (Int.toNat (eG ((dW (f).inodes 6 0 ([])).length:Int) 60)) (dW (f).inodes 6 0 ([]))).length=Int.toNat (eG ((dW (f).inodes 6 0 ([])).length:Int) 60):=by rw [List.length_take];omega
 refine Y.eq .z (congrArg (Value.int .i64) (show eG ((dW (f).inodes 6 0 ([])).length:Int) 60=(((List.take (Int.toNat (eG ((dW (f).inodes 6 0 ([])).length:Int) 60)) (dW (f).inodes 6 0 ([]))).length:Nat):Int) by rw [az];try omega)) ?_
 refine Y.ad (c:=aH cT (List.take (Int.toNat (eG ((dW (f).inodes 6 0 ([])).length:Int) 60)) (dW (f).inodes 6 0 ([]))) [.slice au ((List.take (Int.toNat (eG ((dW (f).inodes 6 0 ([])).length:Int) 60)) (dW (f).inodes 6 0 ([]))).length) av]) (.c .z .n) (pG (by omega)) ?_
 refine Y.ql rfl (jJ (b:=(List.take (Int.toNat (eG ((dW (f).inodes 6 0 ([])).length:Int) 60)) (dW (f).inodes 6 0 ([]))).length) rfl eQ mU (.t .g3) (.t .z) (by omega)) ?_
 refine Y.er .g8 (Y.as rfl .z (Y.nt (Y.ret ?_)))
 refine Y.ah (x':=List.take 60 (dW f.inodes 6 0 [])) .z (by first |(exact wY _) | rfl |(rw [List.take_of_length_le (by omega)])) ?_
 refine Y.i (aU rfl .z) (.c .z .n) ?_
 rfl

theorem aMz {w0:World}{S0:Bs}{f:DFs}{am:Addr} (h0:eV dV w0 (FF w0 S0) am f) (a:Int) (p:ByteArray) (cy:p.size≤140737488351232) (m:Int) (ht:aX f=0) (hp:bQ f.inodes.length a) (ns:List ByteArray) (hpn:p=jnB ns) (hok:∀s,s∈ns→aV s=0) (d:Nat) (hm:m=(d:Int)) (hd:ns.length+d=6) (ih:∀(n':Nat),n'<d→∀{w0:World}{S0:Bs}{f:DFs}{am:Addr} (h0:eV dV w0 (FF w0 S0) am f) (a:Int) (p:ByteArray) (cy:p.size≤140737488351232) (m:Int) (ht:aX f=0) (hp:bQ f.inodes.length a) (ns:List ByteArray) (hpn:p=jnB ns) (hok:∀s,s∈ns→aV s=0) (hm:m=(n':Int)) (hd:ns.length+n'=6),Calls Tryz.prog 40 #[.pointer (some am),.int .i64 a,.string p,.int .i64 m] w0 (aI w0 S0 (fun r l=>l= [aH cT (dW f.inodes n' a ns) [r]]))):
    Calls Tryz.prog 40 #[.pointer (some am),.int .i64 a,.string p,.int .i64 m] w0 (aI w0 S0 (fun r l=>l= [aH cT (dW f.inodes d a ns) [r]])):=by
 obtain⟨dh,bh,cz,bi⟩:=id h0
 obtain⟨c0,c1,rfl,bj,bk⟩:=bZ cz
 obtain⟨c2,c3,rfl,b8,b9,ca,av⟩:=aD bj
 obtain⟨c4,c5,rfl,cb,cc,cd,ce⟩:=aD bk
 have hI:=hU ht
 obtain⟨di,dj⟩:=hp
 have hps:p.size≤30:=(by rw [hpn];have:=yM hok;omega)
 have dp:(⟨#[47]⟩:ByteArray).size=1:=rfl
 have ds:=aCa (d:=d) (by omega)
 have dt:=aCa (d:=d - 1) (by omega)
 refine Y.enter (N:=71) Tryz.func40 rfl rfl (by simp) [(0,.pointer (some am)),(1,.int .i64 a),(2,.string p),(3,.int .i64 m)] (by simp) (l0:= []) trivial ?_
 refine Y.seq (Y.region (Y.ql rfl (aA rfl .c) (Y.nt (Y.seq (Y.region ?_)))))
 refine Y.el rfl (eA rfl eQ (inz jK)) ?_
 rintro _ _ ⟨g3,rfl,rfl⟩
 refine Y.as rfl .z (Y.nt (Y.seq (Y.seq (Y.region (Y.ql rfl (aA rfl .c) (Y.nt ?_))))))
 refine Y.block ?_
 refine Y.add (c:=aH cT ([]:(List ByteArray)) [.slice (some ⟨g3,0,none⟩) 0 0]) (fun w S=>aL w S _) ?_
 obtain⟨du,aw,al⟩:=av (by omega)
 subst aw
 obtain⟨x6,ax⟩:=aK (xs:=f.inodes) (j:=Int.toNat a) (by omega)
 obtain⟨c6,bm,ay,az⟩:=al.elem ax
 obtain⟨cf,cg,rfl,a0,a1⟩:=bY bm
 obtain⟨ch,ci,rfl,bn,bo,bp,bq⟩:=aD a0
 obtain⟨cj,ck,rfl,br,bs,bt,an⟩:=aD a1
 have dv:=cO (i:=a) ax (by omega)
 have bu:=cP (a:=a) ax (by omega)
 have dw:=dL (a:=a) ax (by omega)
 have dx:=mR (a:=a) ax (by omega)
 refine Y.ai (γ:=Nat×(Option Addr)×Nat) (fun⟨k,ac,ad⟩=> [(10,.int .i64 (k:Int)),(9,.slice ac (iK f.inodes d a ns k).length ad),(8,.slice none 0 0),(0,.pointer (some am)),(1,.int .i64 a),(2,.string p),(3,.int .i64 m)]) (fun⟨k,ac,ad⟩=> [aH cT (iK f.inodes d a ns k) [.slice ac (iK f.inodes d a ns k).length ad],bV g3 9 1 0 []]) (fun⟨k,ac,ad⟩=>k≤x6.ents.length∧(d=0→k=0)) (fun⟨k,ac,ad⟩=>x6.ents.length - k) (0,(some ⟨g3,0,none⟩),0) ⟨Nat.zero_le _,fun _=>rfl⟩ (.c .z (.c .g1 (.c .g3 (.c .g4 (.c .g5 (.c .g6 (.c .g7 .n))))))) (fun _ h=>h.sel (.c .z (.c .z .n))) ?_
 rintro⟨k,ac,ad⟩ ⟨hk,h0k⟩
 refine Y.seq (Y.seq (Y.region (Y.mv rfl .g6 (Y.ql rfl (fI rfl (.t .z) .c) (Y.mv rfl .z ?_)))))
 refine Y.al .z (fun g10=> ?_) (fun g10=> ?_)
 have bv:0<d:=by omega
 refine Y.qg rfl rfl .z rfl rfl rfl (aR rfl (.t .g3)) ?_
 refine Y.qg rfl rfl .g1 rfl rfl rfl (aR rfl (.t .g7)) ?_
 refine Y.qg rfl rfl .g2 rfl rfl rfl (dZ rfl (.t .z)) ?_
 refine Y.qg rfl rfl .g3 rfl rfl rfl (aN rfl (.t .z) (fun _=>aP _ _)) ?_
 refine Y.qg rfl rfl .g4 rfl rfl rfl (aM rfl bR (.t .z) (WS.el bh bi rfl)) ?_
 refine Y.qg rfl rfl .g5 rfl rfl rfl (aR rfl (.t .g12)) ?_
 refine Y.qg rfl rfl .g6 rfl rfl rfl (aB (j:=Int.toNat a) rfl cQ aT (.t .g1) (.t .z) (by omega) (by omega)) ?_
 refine Y.qg rfl rfl .g7 rfl rfl rfl (aN rfl (.t .z) (fun _=>bL _ _)) ?_
 refine Y.qg rfl rfl .g8 rfl rfl rfl (aM rfl dX (.t .z) (WS.el ay az rfl)) ?_
 refine Y.qg rfl rfl .g9 rfl rfl rfl (bD rfl dP (.t .z)) ?_
 refine Y.qg rfl rfl .g10 rfl rfl rfl (dA rfl (.t .g9) (.t .z)) ?_
 refine Y.ql rfl (bI rfl (.t .g11) (.t .z)) (Y.nt ?_)
 refine Y.u (.t .z) (fun c7=> ?_) (fun c7=> ?_)
 refine Y.skip (Y.g (Y.seq (Y.block (Y.seq (Y.region (Y.mv rfl (.s16 .g2) (Y.nc rfl .z (Y.fa rfl .z aP ?_))))))))
 refine Y.le rfl bR .z bh bi (Y.mv rfl (.s16 .g7) ?_)
 refine Y.ql rfl (aB (j:=Int.toNat a) rfl cQ aT (.t .g1) (.t .z) (by omega) (by omega)) ?_
 refine Y.fa rfl .z bL (Y.le rfl dX .z ay az (Y.mv rfl (.s16 .g7) ?_))
 obtain⟨c8,ao,ap⟩:=an (by omega)
 subst ao
 obtain⟨ab,a2⟩:=aK (xs:=x6.ents) (j:=k) (by omega)
 obtain⟨cm,a3,a4,a5⟩:=ap.elem a2
 obtain⟨rfl,bw⟩:=eY a3
 have aa:(aG f.inodes a)[k]? =some ab:=by rw [bu];exact a2
 have aq:=yA ht aa
 have bx:=pK ht aa
 have hn4x13:=(oU aq).1
 have bz:=aEq (d:=d) (a:=a) (ns:=ns) hI bv (List.getElem?_eq_some_iff.1 aa).1
 refine Y.ql rfl (aB (j:=k) rfl dP fA (.t .g1) (.t .z) rfl (by omega)) ?_
 refine Y.ql rfl (qE rfl tG (.t .z) a4 a5 fA) ?_
 refine Y.el rfl (bB rfl aD8 rfl rfl) ?_
 rintro _ _ ⟨g15,rfl,rfl⟩
 refine Y.es (aE rfl) rfl (esW rfl (.t .z) (.t .g1) .z fA rfl rfl) ?_
 refine Y.nt (Y.seq (Y.region (Y.mv rfl (.s16 .g16) ?_)))
 refine Y.ql rfl (wT rfl (.t .z) .c (by first | omega |(rw [ByteArray.size_append];omega))) ?_
 refine Y.fa rfl .g2 kM (Y.ld rfl iH .z .z ?_)
 refine Y.ql rfl (wT rfl (.t .g2) (.t .z) (by first | omega |(rw [ByteArray.size_append];omega))) ?_
 refine Y.as rfl .z (Y.nt (Y.seq (Y.region (Y.mv rfl (.s16 (.s16 .g2)) (Y.mv rfl .g1 ?_)))))
 refine Y.el rfl (aQ (cs:= [.string ((p++(⟨#[47]⟩))++ab.name)]) rfl eQ (inz jK) (by decide) (pv1 (.t .z)) rfl rfl (by decide) rfl rfl) ?_
 rintro _ _ ⟨g16,rfl,rfl⟩
 refine Y.add (c:=aH pQ ((p++(⟨#[47]⟩))++ab.name) [.string ((p++(⟨#[47]⟩))++ab.name)]) (fun _ _=>⟨rfl,by first | assumption | omega | exact aFm (by omega)⟩) ?_
 refine Y.el rfl (dK rfl eQ jK rfl (.t .g2) (.t .z) (.c .g3 (.c .g1 (.c .z .n))) (by first | omega |(simp <;> omega)) (by first | omega |(simp <;> omega))) ?_
 rintro _ _ rfl
 refine Y.h (WS.a .z) ?_
 rintro⟨af,ag,rfl,cn,co,cp⟩
 refine Y.er (.s16 (.s16 .g6)) (Y.as rfl .z (Y.nt (Y.seq ?_)))
 refine Y.dr .z 10 fR ?_
 refine Y.sc (qs 0 10) (by kernel_rfl) ?_
 refine Y.dm rfl rfl .z (.s16 (.s16 .g8)) (Y.dn rfl rfl .z .z (Y.df rfl rfl .z .z aP (Y.de rfl rfl .z bR .z bh bi (Y.df rfl rfl .z .g15 gG (Y.dl rfl rfl .z bP .z .g1 ?_)))))
 obtain⟨dy,ae⟩:=aK (xs:=f.inodes) (j:=Int.toNat ab.ino) (by omega)
 obtain⟨cq,a6,a7,a8⟩:=al.elem ae
 obtain⟨b0,b1,rfl,ar,au⟩:=bY a6
 obtain⟨b2,b3,rfl,a9,ba,bb,bc⟩:=aD ar
 obtain⟨b4,b5,rfl,bd,be,bf,bg⟩:=aD au
 have b6:=cO (i:=ab.ino) ae (by omega)
 have c9:=cP (a:=ab.ino) ae (by omega)
 have da:=dL (a:=ab.ino) ae (by omega)
 have db:=mR (a:=ab.ino) ae (by omega)
 refine Y.dk rfl rfl .z (aB (j:=Int.toNat ab.ino) rfl cQ aT (.t .g2) (.t .z) (by omega) (by omega)) ?_
 refine Y.df rfl rfl .z .z bS (Y.de rfl rfl .z bP .z a7 a8 (Y.dk rfl rfl .z (bU rfl (.t .z) .c) (Y.w ?_)))
 refine Y.af (by kernel_rfl) ?_
 refine Y.g ?_
 refine Y.u (.t .z) (fun dc=> ?_) (fun dc=> ?_)
 refine Y.region (Y.mv rfl .g10 (Y.mv rfl (.s16 (.s16 (.s16 .g3))) (Y.fa rfl (.s16 .g7) gG (Y.ld rfl bP .z .g1 (Y.mv rfl (.s16 .g3) (Y.mv rfl (.s16 (.s16 (.s16 .g10))) ?_))))))
 refine Y.ql rfl (iT (c:=m - 1) rfl (.t .z) .c (wr (by omega) (by omega) (by omega))) ?_
 refine Y.cl rfl rfl Tryz.func40 rfl rfl (pD (.t .g5) (.t .g3) (.t .g2) (.t .z)) .n (fun _ _ hs tr=>ih (d - 1) (by omega) (tr.ctxP h0) _ _ (by rw [ByteArray.size_append,ByteArray.size_append];omega) _ (by assumption) (by first | assumption | exact kA ht) (ns++ [ab.name]) (by rw [hpn,aAm,aJn]) (sA hok (by assumption)) (by omega) (by first | rfl |(simp <;> omega))) ?_
 rintro _ _ rfl
 refine Y.m (.c .n) ?_
 refine Y.h (WS.a .z) ?_
 rintro⟨dd,dg,rfl,cr,ct,cu⟩
 have b7:=xY (hU ht) (d - 1) ab.ino (ns++ [ab.name])
 refine Y.el rfl (eD (bT _ _ _) rfl eQ jK rfl (.t .g7) (.t .z) (.c .g1 .n) (fun w1 S1 tr=>tr.own .z) (by first | omega |(simp <;> omega)) (by first | omega |(simp <;> omega))) ?_
 rintro _ _ rfl
 refine Y.h (WS.a .z) ?_
 rintro⟨ah,ai,rfl,cv,cw,cx⟩
 refine Y.er (.s16 .g3) (Y.as rfl .z (Y.nil (Y.ab (Y.g (Y.region (Y.mv rfl (.s16 (.s16 (.s16 .g9))) ?_))))))
 refine Y.ql rfl (bN (c:=((k+1:Nat):Int)) rfl (.t .z) .c (wr (by omega) (by omega) (by omega))) ?_
 refine Y.er (.s16 (.s16 (.s16 .g11))) (Y.as rfl .z (Y.nil ?_))
 have aj:((iK f.inodes d a ns k)++ [(p++(⟨#[47]⟩))++ab.name])++(dW (f).inodes (d - 1) ab.ino (ns++ [ab.name]))=iK f.inodes d a ns (k+1):=(by rw [aK6 bv aa,←aAm,←hpn];simp)
 refine Y.ah .z aj ?_
 refine Y.ak .z (congrArg (fun z_:Nat=>(aH cT (iK f.inodes d a ns (k+1)) [.slice ah z_ ai]:Asn)) (congrArg List.length aj)) ?_
 refine Y.eq .g3 (congrArg (fun z_:Nat=>(.slice ah z_ ai:Value)) (congrArg List.length aj)) ?_
 refine Y.eq .g4 (congrArg (fun z_:Nat=>(.slice ah z_ ai:Value)) (congrArg List.length aj)) ?_
 refine Y.ae ((k+1),ah,ai) ⟨by omega,fun h=>absurd h (by omega)⟩ (by first | omega |(dsimp only;omega)) (.c .g2 (.c .g1 (.c (.s16 (.s16 (.s16 .g12))) (.c (.s16 (.s16 (.s16 .g13))) (.c (.s16 (.s16 (.s16 .g14))) (.c (.s16 (.s16 (.s16 .g15))) (.c (.s16 (.s16 (.s16 .g16))) .n))))))) (fun _ h=>h.sel (.c .z (.c .g2 .n)))
 refine Y.skip (Y.ab (Y.g (Y.region (Y.mv rfl (.s16 (.s16 .g16)) ?_))))
 refine Y.ql rfl (bN (c:=((k+1:Nat):Int)) rfl (.t .z) .c (wr (by omega) (by omega) (by omega))) ?_
 refine Y.er (.s16 (.s16 (.s16 .g2))) (Y.as rfl .z (Y.nil ?_))
 have ak:(iK f.inodes d a ns k)++ [(p++(⟨#[47]⟩))++ab.name]=iK f.inodes d a ns (k+1):=(by rw [aK6 bv aa,aIm (hU ht) (by rw [b6];assumption),←aAm,←hpn])
 refine Y.ah .z ak ?_
 refine Y.ak .z (congrArg (fun z_:Nat=>(aH cT (iK f.inodes d a ns (k+1)) [.slice af z_ ag]:Asn)) (congrArg List.length ak)) ?_
 refine Y.eq .g13 (congrArg (fun z_:Nat=>(.slice af z_ ag:Value)) (congrArg List.length ak)) ?_
 refine Y.eq .g14 (congrArg (fun z_:Nat=>(.slice af z_ ag:Value)) (congrArg List.length ak)) ?_
 refine Y.ae ((k+1),af,ag) ⟨by omega,fun h=>absurd h (by omega)⟩ (by first | omega |(dsimp only;omega)) (.c .g2 (.c .g1 (.c (.s16 (.s16 (.s16 .g3))) (.c (.s16 (.s16 (.s16 .g4))) (.c (.s16 (.s16 (.s16 .g5))) (.c (.s16 (.s16 (.s16 .g6))) (.c (.s16 (.s16 (.s16 .g7))) .n))))))) (fun _ h=>h.sel (.c .z (.c .g1 .n)))
 refine Y.exit (Y.y (Y.y (Y.ag (Y.g (Y.seq (Y.region (Y.mv rfl .g16 (Y.er (.s16 .g2) ?_))))))))
 refine Y.as rfl .z (Y.nt (Y.ret ?_))
 refine Y.i (aU rfl .z) (.c .z .n) ?_
 rw [←aDv (k:=k) (by first | exact .inl ⟨by omega,h0k (by omega)⟩ | exact .inr ⟨by omega,by rw [bu];omega⟩)]
 refine Y.r rfl rfl .z rfl rfl (by decide) rfl ?_
 refine Y.r rfl rfl .g1 rfl rfl (by decide) rfl ?_
 refine Y.r rfl rfl .g2 rfl rfl (by decide) rfl ?_
 refine Y.r rfl rfl .g3 rfl rfl (by decide) rfl ?_
 refine Y.r rfl rfl .g4 rfl rfl (by decide) rfl ?_
 refine Y.r rfl rfl .g5 rfl rfl (by decide) rfl ?_
 refine Y.r rfl rfl .g6 rfl rfl (by decide) rfl ?_
 refine Y.r rfl rfl .g7 rfl rfl (by decide) rfl ?_
 refine Y.r rfl rfl .g8 rfl rfl (by decide) rfl ?_
 refine Y.r rfl rfl .g9 rfl rfl (by decide) rfl ?_
 refine Y.r rfl rfl .g10 rfl rfl (by decide) rfl ?_
 refine Y.ql rfl (bH rfl (.t .g11) .c) (Y.nt ?_)
 refine Y.ap (.t .z) ?_
 refine Y.exit (Y.y (Y.y (Y.ag (Y.g (Y.seq (Y.region (Y.mv rfl .g16 (Y.er (.s16 .g2) ?_))))))))
 refine Y.as rfl .z (Y.nt (Y.ret ?_))
 refine Y.i (aU rfl .z) (.c .z .n) ?_
 rw [←aDv (k:=k) (by first | exact .inl ⟨by omega,h0k (by omega)⟩ | exact .inr ⟨by omega,by rw [bu];omega⟩)]
theorem aN6 {w0:World}{S0:Bs}{f:DFs}{ad0:Addr} (h0:eV dV w0 (FF w0 S0) ad0 f) (a:Int) (p:ByteArray) (hz2:p.size≤140737488351232) (m:Int) (ht:aX f=0) (hp:bQ f.inodes.length a) (ns:List ByteArray) (hpn:p=jnB ns) (hok:∀s,s∈ns→aV s=0) (d:Nat) (hm:m=(d:Int)) (hd:ns.length+d=6):Calls Tryz.prog 40 #[.pointer (some ad0),.int .i64 a,.string p,.int .i64 m] w0 (aI w0 S0 (fun r l=>l= [aH cT (dW f.inodes d a ns) [r]])):=by
 have key:∀n:Nat,∀{w0:World}{S0:Bs}{f:DFs}{ad0:Addr} (h0:eV dV w0 (FF w0 S0) ad0 f) (a:Int) (p:ByteArray) (hz2:p.size≤140737488351232) (m:Int) (ht:aX f=0) (hp:bQ f.inodes.length a) (ns:List ByteArray) (hpn:p=jnB ns) (hok:∀s,s∈ns→aV s=0) (hm:m=(n:Int)) (hd:ns.length+n=6),Calls Tryz.prog 40 #[.pointer (some ad0),.int .i64 a,.string p,.int .i64 m] w0 (aI w0 S0 (fun r l=>l= [aH cT (dW f.inodes n a ns) [r]])):=fun n=>by
  induction n using Nat.strongRecOn with
  | _ n ih=>exact fun h0 a p hz2 m ht hp ns hpn hok hm hd=>aMz h0 a p hz2 m ht hp ns hpn hok n hm hd ih
 exact key d h0 a p hz2 m ht hp ns hpn hok hm hd

theorem aNk {w0:World}{S0:Bs}{f:DFs}{aa:Addr} (h0:eV dV w0 (FF w0 S0) aa f) (ht:aX f=0):
    Calls Tryz.prog 19 #[.pointer (some aa)] w0 (aI w0 S0 (fun r l=>l= [aH cT (List.take 60 (dW f.inodes 6 0 [])) [r]])):=by
 obtain⟨a0,a1,am,a2⟩:=id h0
 obtain⟨an,ao,rfl,ab,ac⟩:=bZ am
 obtain⟨ap,aq,rfl,ad,ae,af,ag⟩:=aD ab
 obtain⟨ar,au,rfl,ah,ai,aj,ak⟩:=aD ac
 refine Y.enter (N:=12) Tryz.func19 rfl rfl (by simp) [(0,.pointer (some aa))] (by simp) (l0:= []) trivial ?_
 refine Y.seq (Y.region (Y.ql rfl (aA rfl .c) (Y.nt (Y.seq (Y.region (Y.mv rfl .g1 ?_))))))
 refine Y.cl rfl rfl Tryz.func40 rfl rfl (pD (.t .z) .c .c .c) .n (fun _ _ hs tr=>aN6 (tr.ctxP h0) _ _ (by decide) _ (by assumption) (by first | assumption | exact kA ht) [] rfl (by simp) 6 (by omega) (by first | rfl |(simp <;> omega))) ?_
 rintro _ _ rfl
 refine Y.m (.c .n) ?_
 refine Y.h (WS.a .z) ?_
 rintro⟨av,aw,rfl,ax,ay,az⟩
 have al:=xY (hU ht) 6 0 []
 refine Y.as rfl .z (Y.nt (Y.seq (Y.seq (Y.region (Y.mv rfl .z (Y.ql rfl (bD rfl eQ (.t .z)) (Y.ql rfl (fI rfl (.t .z) .c) ?_)))))))
 refine Y.nt ?_
 refine Y.u (.t .z) (fun b5=> ?_) (fun b5=> ?_)
 refine Y.region (Y.mv rfl .g3 ?_)
 refine Y.h (WS.r .z) ?_
 rintro⟨-,a3, -, -⟩
 refine Y.ad (c:=aH cT (List.take 60 (dW (f).inodes 6 0 [])) [.slice av 60 aw]) (.c .z .n) (xU (by omega)) ?_
 refine Y.ql rfl (jJ (b:=60) rfl eQ mU (.t .z) .c (by omega)) ?_
 refine Y.er .g5 (Y.as rfl .z (Y.nt (Y.seq (Y.region (Y.mv rfl .z (Y.er .g9 (Y.as rfl .z ?_)))))))
 refine Y.nt (Y.ret ?_)
 refine Y.ah (x':=List.take 60 (dW f.inodes 6 0 [])) .z (by first |(exact wY _) | rfl |(rw [List.take_of_length_le (by omega)])) ?_
 refine Y.i (aU rfl .z) (.c .z .n) ?_
 rfl
 refine Y.skip (Y.g (Y.seq (Y.region (Y.mv rfl .g3 (Y.er .g7 (Y.as rfl .z (Y.nt ?_)))))))
 refine Y.ret ?_
 refine Y.ah (x':=List.take 60 (dW f.inodes 6 0 [])) .z (by first |(exact wY _) | rfl |(rw [List.take_of_length_le (by omega)])) ?_
 refine Y.i (aU rfl .z) (.c .z .n) ?_
 rfl

theorem c_6 {w0:World}{S0:Bs}{f:DFs}{ag:List Value} (h0:dV.ro w0 (FF w0 S0) f ag):
    Calls Tryz.prog 6 #[.agg ag.toArray] w0 (aI w0 S0 (aIh (gV f))):=by
 obtain⟨ap,aq,rfl,aa,ab⟩:=bZ h0
 obtain⟨ac,ad,rfl,ah,ai,aj,ak⟩:=aD aa
 obtain⟨ae,af,rfl,al,am,an,ao⟩:=aD ab
 refine Y.enter (N:=12) Tryz.func6 rfl rfl (by simp) [(0,.agg #[.slice ac f.inodes.length ad,.slice ae f.data.length af])] (by simp) (l0:= []) trivial ?_
 refine Y.seq (Y.region ?_)
 refine Y.el rfl (fQ (cs:= [.slice ac f.inodes.length ad,.slice ae f.data.length af]) (n:=2) rfl (.t .z) rfl rfl) ?_
 rintro _ _ ⟨g3,rfl,rfl⟩
 refine Y.el rfl (bB rfl aGd rfl rfl) ?_
 rintro _ _ ⟨g4,rfl,rfl⟩
 refine Y.nt (Y.seq (Y.seq (Y.region (Y.ql rfl (qW rfl bX (.t .g1) .g1 bA) ?_))))
 refine Y.cl rfl rfl Tryz.func16 rfl rfl (bG (.t .z)) .n (fun _ _ hs tr=>aIi (aJ f (tr.ctx aa) (tr.ctx ab))) ?_
 rintro _ _ ⟨rfl,rfl⟩
 refine Y.m .n ?_
 refine Y.as rfl .z (Y.nt (Y.seq (Y.region (Y.mv rfl .z (Y.ql rfl (bW rfl (.t .z) .c) (Y.nt ?_))))))
 refine Y.ac (.t .z) (fun b5=> ?_) (fun b5=> ?_)
 refine Y.seq (Y.region (Y.mv rfl .g2 (Y.ql rfl (aW (cs:= [.int .i64 (cS f),.slice none 0 0]) rfl zG (pv1 (.t .z)) rfl) ?_)))
 refine Y.es (aE rfl) rfl (esW rfl (.t .g7) (.t .z) .z nF rfl rfl) ?_
 refine Y.nt (Y.ret (Y.j ?_))
 refine Y.add (c:=aH cT [] [.slice none 0 0]) (fun w S=>aL w S none) ?_
 refine Y.i (cU rfl .g7 yL .g1 nF) (.c .z .n) ?_
 first |(rw [qI (by assumption)];exact⟨_,rfl,rfl⟩) |(rw [rB hF];exact⟨_,rfl,rfl⟩)
 have hF:cS f=0:=b5
 have ht:=nE hF
 refine Y.skip (Y.g (Y.seq (Y.region ?_)))
 refine Y.cl rfl rfl Tryz.func17 rfl rfl (bG (.t .g6)) .n (fun _ _ hs tr=>aOo (tr.ptr .g1 (aJ f (tr.ctx aa) (tr.ctx ab))) (by assumption)) ?_
 rintro _ _ rfl
 refine Y.m (.c .n) ?_
 refine Y.h (WS.a .z) ?_
 rintro⟨ar,au,rfl,av,aw,ax⟩
 refine Y.ql rfl (aW (cs:= [.int .i64 0,.slice ar (List.take 60 (dW (f).inodes 6 0 [])).length au]) rfl zG (pv1 (.t .z)) rfl) ?_
 refine Y.es (aE rfl) rfl (esW rfl (.t .g7) (.t .z) .g1 nF rfl rfl) ?_
 refine Y.nt (Y.ret ?_)
 refine Y.i (cU rfl .g7 yL .z nF) (.c .g1 .n) ?_
 first |(rw [qI (by assumption)];exact⟨_,rfl,rfl⟩) |(rw [rB hF];exact⟨_,rfl,rfl⟩)

theorem c_7 {w0:World}{S0:Bs}{f:DFs}{ag:List Value} (h0:dV.ro w0 (FF w0 S0) f ag):
    Calls Tryz.prog 7 #[.agg ag.toArray] w0 (aI w0 S0 (aIh (gV f))):=by
 obtain⟨ap,aq,rfl,aa,ab⟩:=bZ h0
 obtain⟨ac,ad,rfl,ah,ai,aj,ak⟩:=aD aa
 obtain⟨ae,af,rfl,al,am,an,ao⟩:=aD ab
 refine Y.enter (N:=11) Tryz.func7 rfl rfl (by simp) [(0,.agg #[.slice ac f.inodes.length ad,.slice ae f.data.length af])] (by simp) (l0:= []) trivial ?_
 refine Y.seq (Y.region ?_)
 refine Y.el rfl (fQ (cs:= [.slice ac f.inodes.length ad,.slice ae f.data.length af]) (n:=2) rfl (.t .z) rfl rfl) ?_
 rintro _ _ ⟨g3,rfl,rfl⟩
 refine Y.el rfl (bB rfl aGd rfl rfl) ?_
 rintro _ _ ⟨g4,rfl,rfl⟩
 refine Y.nt (Y.seq (Y.seq (Y.region ?_)))
 refine Y.cl rfl rfl Tryz.func18 rfl rfl (bG (.t .g1)) .n (fun _ _ hs tr=>aLk (tr.ptr .g1 (aJ f (tr.ctx aa) (tr.ctx ab)))) ?_
 rintro _ _ ⟨rfl,rfl⟩
 refine Y.m .n ?_
 refine Y.as rfl .z (Y.nt (Y.seq (Y.region (Y.mv rfl .z (Y.ql rfl (bW rfl (.t .z) .c) (Y.nt ?_))))))
 refine Y.ac (.t .z) (fun b5=> ?_) (fun b5=> ?_)
 refine Y.seq (Y.region (Y.mv rfl .g2 (Y.ql rfl (aW (cs:= [.int .i64 (cS f),.slice none 0 0]) rfl zG (pv1 (.t .z)) rfl) ?_)))
 refine Y.es (aE rfl) rfl (esW rfl (.t .g6) (.t .z) .z nF rfl rfl) ?_
 refine Y.nt (Y.ret (Y.j ?_))
 refine Y.add (c:=aH cT [] [.slice none 0 0]) (fun w S=>aL w S none) ?_
 refine Y.i (cU rfl .g6 yL .g1 nF) (.c .z .n) ?_
 first |(rw [qI (by assumption)];exact⟨_,rfl,rfl⟩) |(rw [rB hF];exact⟨_,rfl,rfl⟩)
 have hF:cS f=0:=b5
 have ht:=nE hF
 refine Y.skip (Y.g (Y.seq (Y.region ?_)))
 refine Y.cl rfl rfl Tryz.func19 rfl rfl (bG (.t .g5)) .n (fun _ _ hs tr=>aNk (tr.ptr .g1 (aJ f (tr.ctx aa) (tr.ctx ab))) (by assumption)) ?_
 rintro _ _ rfl
 refine Y.m (.c .n) ?_
 refine Y.h (WS.a .z) ?_
 rintro⟨ar,au,rfl,av,aw,ax⟩
 refine Y.ql rfl (aW (cs:= [.int .i64 0,.slice ar (List.take 60 (dW (f).inodes 6 0 [])).length au]) rfl zG (pv1 (.t .z)) rfl) ?_
 refine Y.es (aE rfl) rfl (esW rfl (.t .g6) (.t .z) .g1 nF rfl rfl) ?_
 refine Y.nt (Y.ret ?_)
 refine Y.i (cU rfl .g6 yL .z nF) (.c .g1 .n) ?_
 first |(rw [qI (by assumption)];exact⟨_,rfl,rfl⟩) |(rw [rB hF];exact⟨_,rfl,rfl⟩)

end Go.Proofs.YtmejbfmhaoilmaaGreatDoor

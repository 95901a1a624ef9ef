/- What is proved: contracts of functions, one a function. No condition. -/
import Derived.Test.YtmejbfmhaoilmaaGreatBase1
import Derived.Test.YtmejbfmhaoilmaaGreatW24
namespace Go.Proofs.YtmejbfmhaoilmaaGreat
open Go Go.RowKit
set_option linter.unusedVariables false
set_option linter.unusedSimpArgs false
set_option maxHeartbeats 1000000
set_option maxRecDepth 20000
theorem aJr {w0:World}{S0:Bs}{x:(List UInt8)}{v0:Value} (h0:bX.ro w0 (FF w0 S0) x [v0]):
    Calls Tryz.prog 89 #[v0] w0 (aI w0 S0 (fun r l=>l= [aG bX x [r]])):=by
 obtain⟨A0,c0,rfl,ae,af,ag,aa⟩:=aD h0
 refine Y.enter (N:=8) Tryz.func89 rfl rfl (by simp) [(0,.slice A0 x.length c0)] (by simp) (l0:= []) trivial ?_
 refine Y.seq (Y.region (Y.ql rfl (aA rfl .c) (Y.nt (Y.seq (Y.seq (Y.region (Y.mv rfl .g1 ?_)))))))
 refine Y.ql rfl (vJ rfl fO (.t .z) .c) (Y.nt ?_)
 refine Y.cond (.t .z) (fun b2=> ?_) (fun b2=> ?_)
 refine Y.seq (Y.region (Y.er .g2 (Y.ql rfl (aA rfl .c) (Y.nt (Y.ret (Y.m ?_))))))
 refine Y.add (c:=aG bX [] [.slice none 0 0]) (fun w S=>aK w S none) ?_
 refine Y.af .z (aAj aa (by assumption)) ?_
 refine Y.j (aT rfl .z) (.c .z .n) ?_
 rfl
 refine Y.skip (Y.g (Y.seq (Y.region ?_)))
 refine Y.el rfl (dW rfl fO (inz iM)) ?_
 rintro _ _ ⟨g4,rfl,rfl⟩
 refine Y.mv rfl .g4 ?_
 refine Y.add (c:=aG bX ([]:(List UInt8)) [.slice (some ⟨g4,0,none⟩) 0 0]) (fun w S=>aK w S _) ?_
 refine Y.el rfl (dU (bI _ _ _) rfl fO iM rfl (.t .g1) (.t .z) (.c .z .n) (fun w1 S1 tr=>tr.ctx h0) (by first | omega |(simp only [List.length_append,List.length_take,List.length_nil,List.length_cons];omega)) (by first | omega |(simp only [List.length_append,List.length_take,List.length_nil,List.length_cons];omega))) ?_
 rintro _ _ rfl
 refine Y.af .z (List.nil_append _) ?_
 refine Y.i (WS.a .z) ?_
 rintro⟨ah,ai,rfl,ab,ac,ad⟩
 refine Y.er .g5 (Y.as rfl .z (Y.nt (Y.ret ?_)))
 refine Y.j (aT rfl .z) (.c .z .n) ?_
 rfl

theorem aIc {w0:World}{S0:Bs}{f:DFs}{a1:List Value} (h0:eS.ro w0 (FF w0 S0) f a1) (a:Int):
    Calls Tryz.prog 43 #[.agg a1.toArray,.int .i64 a] w0 (aI w0 S0 (fun r l=>r= .int .i64 (bS f a)∧l= [])):=by
 obtain⟨bf,bg,rfl,aa,ab⟩:=cQ h0
 obtain⟨ac,ad,rfl,a2,a3,a4,ae⟩:=aD aa
 obtain⟨af,ag,rfl,a5,a6,a7,a8⟩:=aD ab
 refine Y.enter (N:=36) Tryz.func43 rfl rfl (by simp) [(0,.agg #[.slice ac f.inodes.length ad,.slice af f.data.length ag]),(1,.int .i64 a)] (by simp) (l0:= []) trivial ?_
 refine Y.seq (Y.region ?_)
 refine Y.el rfl (fR (cs:= [.slice ac f.inodes.length ad,.slice af f.data.length ag]) (n:=2) rfl (.t .z) rfl rfl) ?_
 rintro _ _ ⟨g3,rfl,rfl⟩
 refine Y.ql rfl (aA rfl .c) (Y.nt (Y.seq (Y.region (Y.ql rfl (qW rfl bN (.t .g1) .z aX) ?_))))
 refine Y.cl rfl rfl Tryz.func54 rfl rfl (bH (.t .z)) .n (fun _ _ hs tr=>aLi (aM f (tr.ctx aa) (tr.ctx ab))) ?_
 rintro _ _ ⟨rfl,rfl⟩
 refine Y.r .n ?_
 refine Y.as rfl .z (Y.nt (Y.seq (Y.block (Y.seq (Y.region (Y.mv rfl .z (Y.ql rfl (cC rfl (.t .z) .c) ?_)))))))
 refine Y.as rfl .z (Y.nt ?_)
 refine Y.ad (.t .z) (fun b4=> ?_) (fun b4=> ?_)
 refine Y.seq (Y.region (Y.mv rfl .g3 (Y.er .g7 (Y.as rfl .z (Y.nt (Y.ret (Y.v ?_)))))))
 refine Y.m ?_
 refine Y.j (aT rfl .z) .n ?_
 exact⟨by first |(rw [eI (by assumption)];done) |(rw [eG (by assumption) (by assumption)];done) |(rw [eK (by assumption) (by assumption) (by omega)];done) |(rw [eJ (by assumption) (by assumption) (by omega) (by omega)];done) |(rw [gF (by assumption) (by assumption) (by omega) (by omega)];done),rfl⟩
 have ao:=mR b4
 have ap:=kC ao
 refine Y.seq (Y.region (Y.mv rfl .g9 (Y.fa rfl .g8 aP (Y.ld rfl bO .z .z ?_))))
 refine Y.cl rfl rfl Tryz.func85 rfl rfl (bH (.t .z)) .n (fun _ _ hs tr=>aLk (tr.ctx aa)) ?_
 rintro _ _ ⟨rfl,rfl⟩
 refine Y.r .n ?_
 refine Y.ql rfl (jO (c:=(f.inodes.length:Int) - 1) rfl (.t .z) .c (wr (by omega) (by omega) (by omega))) ?_
 refine Y.cl rfl rfl Tryz.func84 rfl rfl (eQ (.t .g4) .c (.t .z)) .n (fun _ _ hs tr=>wH _ _ _) ?_
 rintro _ _ ⟨rfl,rfl⟩
 refine Y.r .n ?_
 refine Y.ql rfl (eY rfl (.t .z)) (Y.as rfl .z (Y.nt ?_))
 refine Y.ad (.t .z) (fun b6=> ?_) (fun b6=> ?_)
 refine Y.seq (Y.region (Y.er .g14 (Y.ql rfl (aA rfl .c) (Y.nt (Y.ret (Y.v (Y.m ?_)))))))
 refine Y.j (aT rfl .z) .n ?_
 exact⟨by first |(rw [eI (by assumption)];done) |(rw [eG (by assumption) (by assumption)];done) |(rw [eK (by assumption) (by assumption) (by omega)];done) |(rw [eJ (by assumption) (by assumption) (by omega) (by omega)];done) |(rw [gF (by assumption) (by assumption) (by omega) (by omega)];done),rfl⟩
 refine Y.seq (Y.region (Y.fa rfl .g15 aP (Y.ld rfl bO .z .z (Y.mv rfl (.s16 .g3) ?_))))
 obtain⟨bm,ah,ai⟩:=ae (by omega)
 subst ah
 obtain⟨x8,an⟩:=aJ (xs:=f.inodes) (j:=Int.toNat a) (by omega)
 obtain⟨bh,aq,aj,ak⟩:=ai.elem an
 obtain⟨a9,ba,rfl,al,am⟩:=bV aq
 obtain⟨bb,bc,rfl,ar,au,av,aw⟩:=aD al
 obtain⟨bd,be,rfl,ax,ay,az,a0⟩:=aD am
 have bn:=cZ (i:=a) an (by omega)
 have bo:=dD (a:=a) an (by omega)
 have bi:=dI ap _ (List.mem_of_getElem? an)
 refine Y.ql rfl (aB (j:=Int.toNat a) rfl cI aU (.t .g1) (.t .z) (by omega) (by omega)) ?_
 refine Y.fa rfl .z bW (Y.le rfl bR .z aj ak (Y.ql rfl (bP rfl (.t .z) .c) (Y.as rfl .z (Y.nt ?_))))
 refine Y.u (.t .z) (fun bj=> ?_) (fun bj=> ?_)
 refine Y.seq (Y.region (Y.er (.s16 .g6) (Y.ql rfl (aA rfl .c) (Y.nt (Y.ret (Y.v (Y.m ?_)))))))
 refine Y.j (aT rfl .z) .n ?_
 exact⟨by first |(rw [eI (by assumption)];done) |(rw [eG (by assumption) (by assumption)];done) |(rw [eK (by assumption) (by assumption) (by omega)];done) |(rw [eJ (by assumption) (by assumption) (by omega) (by omega)];done) |(rw [gF (by assumption) (by assumption) (by omega) (by omega)];done),rfl⟩
 refine Y.seq (Y.region (Y.fa rfl (.s16 .g7) aP (Y.ld rfl bO .z .z (Y.mv rfl (.s16 .g11) ?_))))
 refine Y.ql rfl (aB (j:=Int.toNat a) rfl cI aU (.t .g1) (.t .z) (by omega) (by omega)) ?_
 refine Y.fa rfl .z bW (Y.le rfl bR .z aj ak (Y.ql rfl (bP rfl (.t .z) .c) (Y.as rfl .z (Y.nt ?_))))
 refine Y.u (.t .z) (fun bk=> ?_) (fun bk=> ?_)
 refine Y.seq (Y.region (Y.er (.s16 .g14) (Y.ql rfl (aA rfl .c) (Y.nt (Y.ret (Y.v (Y.m ?_)))))))
 refine Y.j (aT rfl .z) .n ?_
 exact⟨by first |(rw [eI (by assumption)];done) |(rw [eG (by assumption) (by assumption)];done) |(rw [eK (by assumption) (by assumption) (by omega)];done) |(rw [eJ (by assumption) (by assumption) (by omega) (by omega)];done) |(rw [gF (by assumption) (by assumption) (by omega) (by omega)];done),rfl⟩
 refine Y.skip (Y.y (Y.g (Y.seq (Y.region (Y.er (.s16 .g14) (Y.ql rfl (aA rfl .c) (Y.nt ?_)))))))
 refine Y.ret ?_
 refine Y.j (aT rfl .z) .n ?_
 exact⟨by first |(rw [eI (by assumption)];done) |(rw [eG (by assumption) (by assumption)];done) |(rw [eK (by assumption) (by assumption) (by omega)];done) |(rw [eJ (by assumption) (by assumption) (by omega) (by omega)];done) |(rw [gF (by assumption) (by assumption) (by omega) (by omega)];done),rfl⟩

theorem aL9 {w0:World}{S0:Bs}{f:DFs}{a1:Addr} (h0:gJ eS w0 (FF w0 S0) a1 f) (a:Int) (ht:bK f=0) (hp:bY f.inodes.length a):
    Calls Tryz.prog 48 #[.pointer (some a1),.int .i64 a] w0 (aI w0 S0 (fun r l=>l= [aG bX (bU f a) [r]])):=by
 obtain⟨cp,bi,b8,bj⟩:=id h0
 obtain⟨ca,cb,rfl,a2,a3⟩:=cQ b8
 obtain⟨cc,cd,rfl,bk,bm,bn,al⟩:=aD a2
 obtain⟨ce,cf,rfl,bo,bp,bq,am⟩:=aD a3
 have hI:=kC ht
 have cg:=kD ht
 obtain⟨cq,cr⟩:=hp
 refine Y.enter (N:=32) Tryz.func48 rfl rfl (by simp) [(0,.pointer (some a1)),(1,.int .i64 a)] (by simp) (l0:= []) trivial ?_
 refine Y.seq (Y.region (Y.ql rfl (aA rfl .c) (Y.nt (Y.seq (Y.region (Y.ql rfl (aA rfl .c) (Y.nil ?_)))))))
 refine Y.g (Y.seq (Y.seq (Y.region (Y.mv rfl .g2 (Y.nc rfl .z (Y.fa rfl .z aP (Y.le rfl bO .z bi bj (Y.mv rfl .g7 ?_))))))))
 obtain⟨cs,an,ao⟩:=al (by omega)
 subst an
 obtain⟨x4,ap⟩:=aJ (xs:=f.inodes) (j:=Int.toNat a) (by omega)
 obtain⟨ch,a4,a5,a6⟩:=ao.elem ap
 obtain⟨br,bt,rfl,aq,ar⟩:=bV a4
 obtain⟨au,av,rfl,a7,a8,a9,ae⟩:=aD aq
 obtain⟨bu,bv,rfl,ba,bb,bc,bd⟩:=aD ar
 have ct:=cZ (i:=a) ap (by omega)
 have cu:=dD (a:=a) ap (by omega)
 have be:=dI hI _ (List.mem_of_getElem? ap)
 have bf:=lO (a:=a) ap (by omega)
 have b4x4:=jP be
 refine Y.ql rfl (aB (j:=Int.toNat a) rfl cI aU (.t .g1) (.t .z) (by omega) (by omega)) ?_
 refine Y.fa rfl .z cS (Y.le rfl eP .z a5 a6 (Y.ql rfl (bE rfl dN (.t .z)) (Y.ql rfl (aS rfl .c) (Y.nt (Y.block ?_)))))
 refine Y.add (c:=aG bX [] [.slice none 0 0]) (fun w S=>aK w S none) ?_
 refine Y.ah (γ:=Nat×(Option Addr)×Nat) (fun⟨k,aa,ab⟩=> [(17,.int .i64 (k:Int)),(16,.int .i64 (x4.blocks.length:Int)),(15,.slice au x4.blocks.length av),(5,.slice aa (hU f.data x4.blocks k).length ab),(4,.slice none 0 0),(0,.pointer (some a1))]) (fun⟨k,aa,ab⟩=> [aG bX (hU f.data x4.blocks k) [.slice aa (hU f.data x4.blocks k).length ab]]) (fun⟨k,aa,ab⟩=>k≤x4.blocks.length) (fun⟨k,aa,ab⟩=>x4.blocks.length - k) (0,none,0) (Nat.zero_le _) (.c .z (.c .g1 (.c .g2 (.c .g10 (.c .g11 (.c .g12 .n)))))) (fun _ h=>h.sel (.c .z .n)) ?_
 rintro⟨k,aa,ab⟩ hk
 have hbl:=qT (data:=f.data) (bs:=x4.blocks) k b4x4.1 (uF ht)
 refine Y.seq (Y.region (Y.ql rfl (cU rfl (.t .z) (.t .g1)) (Y.nt (Y.seq ?_))))
 refine Y.u (.t .z) (fun b9=> ?_) (fun b9=> ?_)
 refine Y.skip (Y.g (Y.seq (Y.block (Y.seq (Y.region ?_)))))
 obtain⟨ci,af,ag⟩:=ae (by omega)
 subst af
 obtain⟨bw,ah⟩:=aJ (xs:=x4.blocks) (j:=k) (by omega)
 obtain⟨bx,aw,ax,ay⟩:=ag.elem ah
 obtain⟨rfl,cj⟩:=aw
 have bz:=b4x4.2 _ (List.mem_of_getElem? ah)
 refine Y.ql rfl (aB (j:=k) rfl dN hP (.t .g3) (.t .g1) rfl (by omega)) ?_
 refine Y.ql rfl (aN rfl bR (.t .z) (WS.i ax ay rfl)) (Y.as rfl .z (Y.nt (Y.region (Y.mv rfl .g7 (Y.mv rfl .g10 (Y.nc rfl .z (Y.fa rfl .z fV ?_)))))))
 refine Y.le rfl kN .z bi bj (Y.mv rfl .g5 ?_)
 obtain⟨ck,ai,aj⟩:=am (by omega)
 subst ai
 obtain⟨cv,ak⟩:=aJ (xs:=f.data) (j:=Int.toNat bw) (by omega)
 obtain⟨b0,ac,az,a0⟩:=aj.elem ak
 obtain⟨cm,rfl⟩:=lB ac
 obtain⟨cn,co,rfl,b1,b2,b3,b4⟩:=aD ac
 have p8x14:=uF ht _ (List.mem_of_getElem? ak)
 refine Y.ql rfl (aB (j:=Int.toNat bw) rfl lE kL (.t .g1) (.t .z) (by omega) (by omega)) ?_
 refine Y.ql rfl (aN rfl lR (.t .z) (WS.i az a0 rfl)) ?_
 refine Y.el rfl (dU (bI _ _ _) rfl fO iM rfl (.t .g7) (.t .z) (.c .z .n) (fun w1 S1 tr=>tr.ctx ac) (by first | omega |(simp only [List.length_append,List.length_take,List.length_nil,List.length_cons];omega)) (by first | omega |(simp only [List.length_append,List.length_take,List.length_nil,List.length_cons];omega))) ?_
 rintro _ _ rfl
 refine Y.af .z (yW ah ak) ?_
 refine Y.i (WS.a .z) ?_
 rintro⟨bg,bh,rfl,b5,b6,b7⟩
 refine Y.er .g16 (Y.as rfl .z (Y.nil (Y.y (Y.g (Y.region ?_)))))
 refine Y.ql rfl (bG (c:=((k+1:Nat):Int)) rfl (.t .g14) .c (wr (by omega) (by omega) (by omega))) ?_
 refine Y.er .g15 (Y.mv rfl .z (Y.nil ?_))
 refine Y.ae ((k+1),bg,bh) (by omega) (by first | omega |(dsimp only;omega)) (.c .z (.c .g16 (.c (.s16 .g1) (.c .g2 (.c (.s16 .g2) (.c (.s16 .g3) .n)))))) (fun _ h=>h.sel (.c .z .n))
 refine Y.exit (Y.w (Y.w (Y.ag (Y.g (Y.seq (Y.region (Y.mv rfl .g4 (Y.er .g6 ?_))))))))
 refine Y.as rfl .z (Y.nt (Y.ret ?_))
 have ad:hU f.data x4.blocks k=bU f a:=(by unfold bU;rw [bf];exact uN (by omega))
 refine Y.eq .z (congrArg (fun z_=>(.slice aa (z_).length ab:Value)) ad) ?_
 refine Y.eq .g1 (congrArg (fun z_=>(.slice aa (z_).length ab:Value)) ad) ?_
 refine Y.eq .g6 (congrArg (fun z_=>(.slice aa (z_).length ab:Value)) ad) ?_
 refine Y.aj .z (congrArg (fun z_=>(aG bX (z_) [.slice aa (z_).length ab]:Asn)) ad) ?_
 refine Y.j (aT rfl .g2) (.c .z .n) ?_
 rfl

theorem aJi {w0:World}{S0:Bs}{f:DFs}{ad0:Addr} (h0:gJ eS w0 (FF w0 S0) ad0 f) (a:Int):
    Calls Tryz.prog 90 #[.pointer (some ad0),.int .i64 a] w0 (aI w0 S0 (fun r l=>r= .bool (decide (bY f.inodes.length a))∧l= [])):=by
 obtain⟨ec0,hF0,hr0,hc0⟩:=id h0
 obtain⟨u0_0,u0_1,rfl,h0_0,h0_1⟩:=cQ hr0
 obtain⟨A0_0,c0_0,rfl,hl0_0,hm0_0,hb0_0,he0_0⟩:=aD h0_0
 obtain⟨A0_1,c0_1,rfl,hl0_1,hm0_1,hb0_1,he0_1⟩:=aD h0_1
 refine Y.enter (N:=13) Tryz.func90 rfl rfl (by simp) [(0,.pointer (some ad0)),(1,.int .i64 a)] (by simp) (l0:= []) trivial ?_
 refine Y.seq (Y.region (Y.ql rfl (aA rfl .c) (Y.nt (Y.seq (Y.region (Y.mv rfl .g2 (Y.mv rfl .g2 ?_)))))))
 refine Y.nc rfl .z (Y.fa rfl .z aP (Y.le rfl bO .z hF0 hc0 (Y.ql rfl (bE rfl cI (.t .z)) ?_)))
 refine Y.ql rfl (jO (c:=(f.inodes.length:Int) - 1) rfl (.t .z) .c (wr (by omega) (by omega) (by omega))) ?_
 refine Y.cl rfl rfl Tryz.func46 rfl rfl (eQ (.t .g6) .c (.t .z)) .n (fun _ _ hs tr=>xG _ _ _) ?_
 rintro _ _ ⟨rfl,rfl⟩
 refine Y.r .n ?_
 refine Y.er .g8 (Y.as rfl .z (Y.nt (Y.ret ?_)))
 refine Y.j (aT rfl .z) .n ?_
 exact⟨rfl,rfl⟩

theorem aJo {w0:World}{S0:Bs}{f:DFs}{a1:Addr} (h0:gJ eS w0 (FF w0 S0) a1 f) (a:Int) (ht:bK f=0) (hp:bY f.inodes.length a):
    Calls Tryz.prog 68 #[.pointer (some a1),.int .i64 a] w0 (aI w0 S0 (fun r l=>l= [aG bX (bU f a) [r]])):=by
 obtain⟨cq,bg,b8,bh⟩:=id h0
 obtain⟨b9,ca,rfl,a2,a3⟩:=cQ b8
 obtain⟨cb,cc,rfl,bi,bj,bk,al⟩:=aD a2
 obtain⟨cd,ce,rfl,bm,bn,bo,am⟩:=aD a3
 have hI:=kC ht
 have cf:=kD ht
 obtain⟨cr,cs⟩:=hp
 refine Y.enter (N:=40) Tryz.func68 rfl rfl (by simp) [(0,.pointer (some a1)),(1,.int .i64 a)] (by simp) (l0:= []) trivial ?_
 refine Y.seq (Y.region (Y.ql rfl (aA rfl .c) (Y.nt (Y.seq (Y.region ?_)))))
 refine Y.el rfl (dW rfl fO (inz iM)) ?_
 rintro _ _ ⟨g3,rfl,rfl⟩
 refine Y.as rfl .z (Y.nt (Y.seq (Y.region (Y.mv rfl .g3 (Y.nc rfl .z (Y.fa rfl .z aP (Y.le rfl bO .z bg bh ?_)))))))
 refine Y.mv rfl .g8 ?_
 obtain⟨cg,an,ao⟩:=al (by omega)
 subst an
 obtain⟨x5,ap⟩:=aJ (xs:=f.inodes) (j:=Int.toNat a) (by omega)
 obtain⟨ch,a4,aq,ar⟩:=ao.elem ap
 obtain⟨bp,bq,rfl,au,av⟩:=bV a4
 obtain⟨br,bt,rfl,a5,a6,a7,ae⟩:=aD au
 obtain⟨bu,bv,rfl,a8,a9,ba,bb⟩:=aD av
 have ct:=cZ (i:=a) ap (by omega)
 have cu:=dD (a:=a) ap (by omega)
 have bc:=dI hI _ (List.mem_of_getElem? ap)
 have bd:=lO (a:=a) ap (by omega)
 have b4x5:=jP bc
 refine Y.ql rfl (aB (j:=Int.toNat a) rfl cI aU (.t .g1) (.t .z) (by omega) (by omega)) ?_
 refine Y.as rfl .z (Y.nt (Y.seq (Y.seq (Y.region (Y.ql rfl (aA rfl .c) (Y.nt ?_))))))
 refine Y.block ?_
 refine Y.add (c:=aG bX ([]:(List UInt8)) [.slice (some ⟨g3,0,none⟩) 0 0]) (fun w S=>aK w S _) ?_
 refine Y.ah (γ:=Nat×(Option Addr)×Nat) (fun⟨k,aa,ab⟩=> [(7,.int .i64 (k:Int)),(6,.pointer (some (Addr.add cg ((Int.toNat a) * 5)))),(5,.slice aa (hU f.data x5.blocks k).length ab),(4,.slice none 0 0),(0,.pointer (some a1))]) (fun⟨k,aa,ab⟩=> [aG bX (hU f.data x5.blocks k) [.slice aa (hU f.data x5.blocks k).length ab],bZ g3 5 1 0 []]) (fun⟨k,aa,ab⟩=>k≤x5.blocks.length) (fun⟨k,aa,ab⟩=>x5.blocks.length - k) (0,(some ⟨g3,0,none⟩),0) (Nat.zero_le _) (.c .z (.c .g1 (.c .g8 (.c .g10 (.c .g11 .n))))) (fun _ h=>h.sel (.c .z (.c .z .n))) ?_
 rintro⟨k,aa,ab⟩ hk
 have hbl:=qT (data:=f.data) (bs:=x5.blocks) k b4x5.1 (uF ht)
 refine Y.seq (Y.seq (Y.region (Y.mv rfl .z (Y.mv rfl .g2 (Y.nc rfl .z (Y.fa rfl .z cS (Y.le rfl eP .z aq ar (Y.ql rfl (bE rfl dN (.t .z)) ?_))))))))
 refine Y.ql rfl (cU rfl (.t .g5) (.t .z)) (Y.nt ?_)
 refine Y.u (.t .z) (fun ci=> ?_) (fun ci=> ?_)
 refine Y.skip (Y.g (Y.seq (Y.block ?_)))
 refine Y.dr .g1 15 gB ?_
 refine Y.sc (qs 0 14++ [(14,false),(15,false)]) (by kernel_rfl) ?_
 refine Y.dm rfl rfl .g1 .g9 (Y.dm rfl rfl .g1 .g12 (Y.dn rfl rfl .g1 .z (Y.df rfl rfl .g1 .z fV (Y.de rfl rfl .g1 kN .z bg bh (Y.dm rfl rfl .g1 .g13 (Y.dn rfl rfl .g1 .z (Y.df rfl rfl .g1 .z cS (Y.de rfl rfl .g1 eP .z aq ar ?_))))))))
 refine Y.dm rfl rfl .g1 .g16 ?_
 obtain⟨cj,af,ag⟩:=ae (by omega)
 subst af
 obtain⟨bw,ah⟩:=aJ (xs:=x5.blocks) (j:=k) (by omega)
 obtain⟨bx,aw,ax,ay⟩:=ag.elem ah
 obtain⟨rfl,ck⟩:=aw
 have bz:=b4x5.2 _ (List.mem_of_getElem? ah)
 refine Y.dk rfl rfl .g1 (aB (j:=k) rfl dN hP (.t .g1) (.t .z) rfl (by omega)) ?_
 refine Y.dk rfl rfl .g1 (aN rfl bR (.t .z) (WS.i ax ay rfl)) ?_
 obtain⟨cm,ai,aj⟩:=am (by omega)
 subst ai
 obtain⟨cv,ak⟩:=aJ (xs:=f.data) (j:=Int.toNat bw) (by omega)
 obtain⟨b0,ac,az,a0⟩:=aj.elem ak
 obtain⟨cn,rfl⟩:=lB ac
 obtain⟨co,cp,rfl,b1,b2,b3,b4⟩:=aD ac
 have p8x15:=uF ht _ (List.mem_of_getElem? ak)
 refine Y.dk rfl rfl .g1 (aB (j:=Int.toNat bw) rfl lE kL (.t .g7) (.t .z) (by omega) (by omega)) ?_
 refine Y.dk rfl rfl .g1 (aN rfl lR (.t .z) (WS.i az a0 rfl)) ?_
 refine Y.e (aC rfl rfl) rfl (by decide) rfl (dU (bI _ _ _) rfl fO iM rfl (.t .g13) (.t .z) (.c .z .n) (fun w1 S1 tr=>tr.ctx ac) (by first | omega |(simp only [List.length_append,List.length_take,List.length_nil,List.length_cons];omega)) (by first | omega |(simp only [List.length_append,List.length_take,List.length_nil,List.length_cons];omega))) ?_
 rintro _ _ rfl
 refine Y.af .z (yW ah ak) ?_
 refine Y.i (WS.a .z) ?_
 rintro⟨be,bf,rfl,b5,b6,b7⟩
 refine Y.sk .g1 ?_
 refine Y.er (.s16 .g8) ?_
 refine Y.q (aC rfl rfl) rfl (by decide) rfl (aA rfl (.t .z)) ?_
 refine Y.sl rfl ?_
 refine Y.aa ?_
 refine Y.ai (by kernel_rfl) ?_
 refine Y.y (Y.g (Y.region (Y.mv rfl (.s16 .g7) ?_)))
 refine Y.ql rfl (bG (c:=((k+1:Nat):Int)) rfl (.t .z) .c (wr (by omega) (by omega) (by omega))) ?_
 refine Y.er (.s16 .g9) (Y.as rfl .z (Y.nil ?_))
 refine Y.ae ((k+1),be,bf) (by omega) (by first | omega |(dsimp only;omega)) (.c .z (.c (.s16 .g10) (.c .g3 (.c (.s16 .g11) (.c (.s16 .g12) .n))))) (fun _ h=>h.sel (.c .z (.c .z .n)))
 refine Y.exit (Y.w (Y.w (Y.ag (Y.g (Y.seq (Y.region (Y.mv rfl .g9 (Y.er .g11 ?_))))))))
 refine Y.as rfl .z (Y.nt (Y.ret ?_))
 have ad:hU f.data x5.blocks k=bU f a:=(by unfold bU;rw [bd];exact uN (by omega))
 refine Y.eq .z (congrArg (fun z_=>(.slice aa (z_).length ab:Value)) ad) ?_
 refine Y.eq .g1 (congrArg (fun z_=>(.slice aa (z_).length ab:Value)) ad) ?_
 refine Y.eq .g11 (congrArg (fun z_=>(.slice aa (z_).length ab:Value)) ad) ?_
 refine Y.aj .z (congrArg (fun z_=>(aG bX (z_) [.slice aa (z_).length ab]:Asn)) ad) ?_
 refine Y.j (aT rfl .g2) (.c .z .n) ?_
 rfl

theorem aM9 {w0:World}{S0:Bs}{f:DFs}{aj:List Value} (h0:eS.ro w0 (FF w0 S0) f aj) (a:Int):
    Calls Tryz.prog 13 #[.agg aj.toArray,.int .i64 a] w0 (aI w0 S0 (aF3 (gQ f a))):=by
 obtain⟨au,av,rfl,aa,ab⟩:=cQ h0
 obtain⟨ac,ad,rfl,ak,al,am,an⟩:=aD aa
 obtain⟨ae,af,rfl,ao,ap,aq,ar⟩:=aD ab
 refine Y.enter (N:=16) Tryz.func13 rfl rfl (by simp) [(0,.agg #[.slice ac f.inodes.length ad,.slice ae f.data.length af]),(1,.int .i64 a)] (by simp) (l0:= []) trivial ?_
 refine Y.seq (Y.region ?_)
 refine Y.el rfl (fR (cs:= [.slice ac f.inodes.length ad,.slice ae f.data.length af]) (n:=2) rfl (.t .z) rfl rfl) ?_
 rintro _ _ ⟨g3,rfl,rfl⟩
 refine Y.el rfl (bD rfl aFd rfl rfl) ?_
 rintro _ _ ⟨g4,rfl,rfl⟩
 refine Y.nt (Y.seq (Y.seq (Y.region (Y.ql rfl (qW rfl bN (.t .g1) .g1 aX) (Y.mv rfl .g4 ?_)))))
 refine Y.cl rfl rfl Tryz.func43 rfl rfl (aR (.t .g1) (.t .z)) .n (fun _ _ hs tr=>aIc (aM f (tr.ctx aa) (tr.ctx ab)) _) ?_
 rintro _ _ ⟨rfl,rfl⟩
 refine Y.r .n ?_
 refine Y.as rfl .z (Y.nt (Y.seq (Y.region (Y.mv rfl .z (Y.ql rfl (cC rfl (.t .z) .c) (Y.nt ?_))))))
 refine Y.ad (.t .z) (fun b5=> ?_) (fun b5=> ?_)
 refine Y.seq (Y.region (Y.mv rfl .g2 ?_))
 refine Y.ql rfl (aZ (cs:= [.int .i64 (bS f a),.slice none 0 0]) rfl qS (pv1 (.t .z)) rfl) ?_
 refine Y.es (aE rfl) rfl (esW rfl (.t .g8) (.t .z) .z iX rfl rfl) ?_
 refine Y.nt (Y.ret (Y.m ?_))
 refine Y.add (c:=aG bX [] [.slice none 0 0]) (fun w S=>aK w S none) ?_
 refine Y.j (dA rfl .g8 pK .g1 iX) (.c .z .n) ?_
 first |(rw [dM (by assumption)];exact⟨_,rfl,rfl⟩) |(rw [gK (by assumption)];exact⟨_,rfl,rfl⟩) |(rw [gK (gF (by assumption) (by assumption) (by omega) (by omega))];exact⟨_,rfl,rfl⟩) |(rw [dM (by rw [eI (by assumption)];first | assumption | decide),eI (by assumption)];exact⟨_,rfl,rfl⟩) |(rw [dM (by rw [eG (by assumption) (by assumption)];first | assumption | decide),eG (by assumption) (by assumption)];exact⟨_,rfl,rfl⟩) |(rw [dM (by rw [eK (by assumption) (by assumption) (by omega)];first | assumption | decide),eK (by assumption) (by assumption) (by omega)];exact⟨_,rfl,rfl⟩) |(rw [dM (by rw [eJ (by assumption) (by assumption) (by omega) (by omega)];first | assumption | decide),eJ (by assumption) (by assumption) (by omega) (by omega)];exact⟨_,rfl,rfl⟩)
 obtain⟨ah,⟨aw,ax⟩,ay,az⟩:=nI b5
 have ag:=mR ah
 have ai:=kC ag
 have a0:=kD ag
 have a1:=kO ai a
 refine Y.skip (Y.g (Y.seq (Y.region (Y.mv rfl .g9 ?_))))
 refine Y.cl rfl rfl Tryz.func48 rfl rfl (aR (.t .g8) (.t .z)) .n (fun _ _ hs tr=>aL9 (tr.ptr .g1 (aM f (tr.ctx aa) (tr.ctx ab))) _ (by assumption) (by first | assumption |(constructor <;> omega))) ?_
 rintro _ _ rfl
 refine Y.r (.c .n) ?_
 refine Y.i (WS.a .z) ?_
 rintro⟨a2,a3,rfl,a4,a5,a6⟩
 refine Y.ql rfl (aZ (cs:= [.int .i64 0,.slice a2 (bU f a).length a3]) rfl qS (pv1 (.t .z)) rfl) ?_
 refine Y.es (aE rfl) rfl (esW rfl (.t .g9) (.t .z) .g1 iX rfl rfl) ?_
 refine Y.nt (Y.ret ?_)
 refine Y.j (dA rfl .g9 pK .z iX) (.c .g1 .n) ?_
 first |(rw [dM (by assumption)];exact⟨_,rfl,rfl⟩) |(rw [gK (by assumption)];exact⟨_,rfl,rfl⟩) |(rw [gK (gF (by assumption) (by assumption) (by omega) (by omega))];exact⟨_,rfl,rfl⟩) |(rw [dM (by rw [eI (by assumption)];first | assumption | decide),eI (by assumption)];exact⟨_,rfl,rfl⟩) |(rw [dM (by rw [eG (by assumption) (by assumption)];first | assumption | decide),eG (by assumption) (by assumption)];exact⟨_,rfl,rfl⟩) |(rw [dM (by rw [eK (by assumption) (by assumption) (by omega)];first | assumption | decide),eK (by assumption) (by assumption) (by omega)];exact⟨_,rfl,rfl⟩) |(rw [dM (by rw [eJ (by assumption) (by assumption) (by omega) (by omega)];first | assumption | decide),eJ (by assumption) (by assumption) (by omega) (by omega)];exact⟨_,rfl,rfl⟩)

theorem aMd {w0:World}{S0:Bs}{f:DFs}{a9:List Value} (h0:eS.ro w0 (FF w0 S0) f a9) (a:Int):
    Calls Tryz.prog 45 #[.agg a9.toArray,.int .i64 a] w0 (aI w0 S0 (aF3 (gQ f a))):=by
 obtain⟨bn,bo,rfl,aa,ab⟩:=cQ h0
 obtain⟨ah,ai,rfl,ba,bb,bc,aj⟩:=aD aa
 obtain⟨ak,al,rfl,bd,be,bf,bg⟩:=aD ab
 refine Y.enter (N:=30) Tryz.func45 rfl rfl (by simp) [(0,.agg #[.slice ah f.inodes.length ai,.slice ak f.data.length al]),(1,.int .i64 a)] (by simp) (l0:= []) trivial ?_
 refine Y.seq (Y.region ?_)
 refine Y.el rfl (fR (cs:= [.slice ah f.inodes.length ai,.slice ak f.data.length al]) (n:=2) rfl (.t .z) rfl rfl) ?_
 rintro _ _ ⟨g3,rfl,rfl⟩
 refine Y.el rfl (bD rfl aFd rfl rfl) ?_
 rintro _ _ ⟨g4,rfl,rfl⟩
 refine Y.nt (Y.seq (Y.seq (Y.region ?_)))
 refine Y.cl rfl rfl Tryz.func56 rfl rfl (bH (.t .g1)) .n (fun _ _ hs tr=>aMm (tr.ptr .g1 (aM f (tr.ctx aa) (tr.ctx ab)))) ?_
 rintro _ _ ⟨rfl,rfl⟩
 refine Y.r .n ?_
 refine Y.as rfl .z (Y.nt (Y.seq (Y.region (Y.mv rfl .z (Y.ql rfl (cC rfl (.t .z) .c) (Y.nt ?_))))))
 refine Y.ad (.t .z) (fun b5=> ?_) (fun b5=> ?_)
 refine Y.seq (Y.region (Y.mv rfl .g2 (Y.ql rfl (aZ (cs:= [.int .i64 (eO f),.slice none 0 0]) rfl qS (pv1 (.t .z)) rfl) ?_)))
 refine Y.es (aE rfl) rfl (esW rfl (.t .g6) (.t .z) .z iX rfl rfl) ?_
 refine Y.nt (Y.ret (Y.m ?_))
 refine Y.add (c:=aG bX [] [.slice none 0 0]) (fun w S=>aK w S none) ?_
 refine Y.j (dA rfl .g6 pK .g1 iX) (.c .z .n) ?_
 first |(rw [dM (by assumption)];exact⟨_,rfl,rfl⟩) |(rw [gK (by assumption)];exact⟨_,rfl,rfl⟩) |(rw [gK (gF (by assumption) (by assumption) (by omega) (by omega))];exact⟨_,rfl,rfl⟩) |(rw [dM (by rw [eI (by assumption)];first | assumption | decide),eI (by assumption)];exact⟨_,rfl,rfl⟩) |(rw [dM (by rw [eG (by assumption) (by assumption)];first | assumption | decide),eG (by assumption) (by assumption)];exact⟨_,rfl,rfl⟩) |(rw [dM (by rw [eK (by assumption) (by assumption) (by omega)];first | assumption | decide),eK (by assumption) (by assumption) (by omega)];exact⟨_,rfl,rfl⟩) |(rw [dM (by rw [eJ (by assumption) (by assumption) (by omega) (by omega)];first | assumption | decide),eJ (by assumption) (by assumption) (by omega) (by omega)];exact⟨_,rfl,rfl⟩)
 have az:=mR b5
 have a0:=kC az
 refine Y.skip (Y.g (Y.seq (Y.seq (Y.region (Y.mv rfl .g7 ?_)))))
 refine Y.cl rfl rfl Tryz.func90 rfl rfl (aR (.t .g6) (.t .z)) .n (fun _ _ hs tr=>aJi (tr.ptr .g1 (aM f (tr.ctx aa) (tr.ctx ab))) _) ?_
 rintro _ _ ⟨rfl,rfl⟩
 refine Y.r .n ?_
 refine Y.ql rfl (eY rfl (.t .z)) (Y.nt ?_)
 refine Y.ad (.t .z) (fun b8=> ?_) (fun b8=> ?_)
 refine Y.seq (Y.region (Y.ql rfl (aZ (cs:= [.int .i64 3,.slice none 0 0]) rfl qS (pv1 .c) rfl) ?_))
 refine Y.es (aE rfl) rfl (esW rfl (.t .g8) (.t .z) .z iX rfl rfl) ?_
 refine Y.nt (Y.ret (Y.m ?_))
 refine Y.add (c:=aG bX [] [.slice none 0 0]) (fun w S=>aK w S none) ?_
 refine Y.j (dA rfl .g8 pK .g1 iX) (.c .z .n) ?_
 first |(rw [dM (by assumption)];exact⟨_,rfl,rfl⟩) |(rw [gK (by assumption)];exact⟨_,rfl,rfl⟩) |(rw [gK (gF (by assumption) (by assumption) (by omega) (by omega))];exact⟨_,rfl,rfl⟩) |(rw [dM (by rw [eI (by assumption)];first | assumption | decide),eI (by assumption)];exact⟨_,rfl,rfl⟩) |(rw [dM (by rw [eG (by assumption) (by assumption)];first | assumption | decide),eG (by assumption) (by assumption)];exact⟨_,rfl,rfl⟩) |(rw [dM (by rw [eK (by assumption) (by assumption) (by omega)];first | assumption | decide),eK (by assumption) (by assumption) (by omega)];exact⟨_,rfl,rfl⟩) |(rw [dM (by rw [eJ (by assumption) (by assumption) (by omega) (by omega)];first | assumption | decide),eJ (by assumption) (by assumption) (by omega) (by omega)];exact⟨_,rfl,rfl⟩)
 refine Y.skip (Y.g (Y.seq (Y.seq (Y.region (Y.fa rfl .g8 aP (Y.ld rfl bO .z .g1 (Y.mv rfl .g12 ?_)))))))
 obtain⟨bp,ad,ae⟩:=aj (by omega)
 subst ad
 obtain⟨bu,ac⟩:=aJ (xs:=f.inodes) (j:=Int.toNat a) (by omega)
 obtain⟨bh,am,an,ao⟩:=ae.elem ac
 obtain⟨a1,a2,rfl,af,ag⟩:=bV am
 obtain⟨a3,a4,rfl,ap,aq,ar,au⟩:=aD af
 obtain⟨a5,a6,rfl,av,aw,ax,ay⟩:=aD ag
 have bq:=cZ (i:=a) ac (by omega)
 have br:=dD (a:=a) ac (by omega)
 have bi:=dI a0 _ (List.mem_of_getElem? ac)
 refine Y.ql rfl (aB (j:=Int.toNat a) rfl cI aU (.t .g1) (.t .z) (by omega) (by omega)) ?_
 refine Y.fa rfl .z bW (Y.le rfl bR .z an ao (Y.nt (Y.block (Y.seq (Y.region (Y.ql rfl (bP rfl (.t .z) .c) (Y.as rfl .z ?_)))))))
 refine Y.nt ?_
 refine Y.u (.t .z) (fun bs=> ?_) (fun bs=> ?_)
 refine Y.seq (Y.region (Y.ql rfl (aZ (cs:= [.int .i64 9,.slice none 0 0]) rfl qS (pv1 .c) rfl) ?_))
 refine Y.es (aE rfl) rfl (esW rfl (.t .g16) (.t .z) .z iX rfl rfl) ?_
 refine Y.nt (Y.ret (Y.v (Y.m ?_)))
 refine Y.add (c:=aG bX [] [.slice none 0 0]) (fun w S=>aK w S none) ?_
 refine Y.j (dA rfl .g16 pK .g1 iX) (.c .z .n) ?_
 first |(rw [dM (by assumption)];exact⟨_,rfl,rfl⟩) |(rw [gK (by assumption)];exact⟨_,rfl,rfl⟩) |(rw [gK (gF (by assumption) (by assumption) (by omega) (by omega))];exact⟨_,rfl,rfl⟩) |(rw [dM (by rw [eI (by assumption)];first | assumption | decide),eI (by assumption)];exact⟨_,rfl,rfl⟩) |(rw [dM (by rw [eG (by assumption) (by assumption)];first | assumption | decide),eG (by assumption) (by assumption)];exact⟨_,rfl,rfl⟩) |(rw [dM (by rw [eK (by assumption) (by assumption) (by omega)];first | assumption | decide),eK (by assumption) (by assumption) (by omega)];exact⟨_,rfl,rfl⟩) |(rw [dM (by rw [eJ (by assumption) (by assumption) (by omega) (by omega)];first | assumption | decide),eJ (by assumption) (by assumption) (by omega) (by omega)];exact⟨_,rfl,rfl⟩)
 refine Y.seq (Y.region (Y.ql rfl (bP rfl (.t .g2) .c) (Y.as rfl .z (Y.nt ?_))))
 refine Y.u (.t .z) (fun bt=> ?_) (fun bt=> ?_)
 refine Y.seq (Y.region (Y.ql rfl (aZ (cs:= [.int .i64 4,.slice none 0 0]) rfl qS (pv1 .c) rfl) ?_))
 refine Y.es (aE rfl) rfl (esW rfl (.t (.s16 .g2)) (.t .z) .z iX rfl rfl) ?_
 refine Y.nt (Y.ret (Y.v (Y.m ?_)))
 refine Y.add (c:=aG bX [] [.slice none 0 0]) (fun w S=>aK w S none) ?_
 refine Y.j (dA rfl (.s16 .g2) pK .g1 iX) (.c .z .n) ?_
 first |(rw [dM (by assumption)];exact⟨_,rfl,rfl⟩) |(rw [gK (by assumption)];exact⟨_,rfl,rfl⟩) |(rw [gK (gF (by assumption) (by assumption) (by omega) (by omega))];exact⟨_,rfl,rfl⟩) |(rw [dM (by rw [eI (by assumption)];first | assumption | decide),eI (by assumption)];exact⟨_,rfl,rfl⟩) |(rw [dM (by rw [eG (by assumption) (by assumption)];first | assumption | decide),eG (by assumption) (by assumption)];exact⟨_,rfl,rfl⟩) |(rw [dM (by rw [eK (by assumption) (by assumption) (by omega)];first | assumption | decide),eK (by assumption) (by assumption) (by omega)];exact⟨_,rfl,rfl⟩) |(rw [dM (by rw [eJ (by assumption) (by assumption) (by omega) (by omega)];first | assumption | decide),eJ (by assumption) (by assumption) (by omega) (by omega)];exact⟨_,rfl,rfl⟩)
 refine Y.skip (Y.y (Y.g (Y.seq (Y.region (Y.mv rfl (.s16 .g4) ?_)))))
 refine Y.cl rfl rfl Tryz.func68 rfl rfl (aR (.t (.s16 .g3)) (.t .z)) .n (fun _ _ hs tr=>aJo (tr.ptr .g1 (aM f (tr.ctx aa) (tr.ctx ab))) _ (by assumption) (by first | assumption |(constructor <;> omega))) ?_
 rintro _ _ rfl
 refine Y.r (.c .n) ?_
 refine Y.i (WS.a .z) ?_
 rintro⟨a7,a8,rfl,bj,bk,bm⟩
 refine Y.ql rfl (aZ (cs:= [.int .i64 0,.slice a7 (bU f a).length a8]) rfl qS (pv1 (.t .z)) rfl) ?_
 refine Y.es (aE rfl) rfl (esW rfl (.t (.s16 .g4)) (.t .z) .g1 iX rfl rfl) ?_
 refine Y.nt (Y.ret ?_)
 refine Y.j (dA rfl (.s16 .g4) pK .z iX) (.c .g1 .n) ?_
 first |(rw [dM (by assumption)];exact⟨_,rfl,rfl⟩) |(rw [gK (by assumption)];exact⟨_,rfl,rfl⟩) |(rw [gK (gF (by assumption) (by assumption) (by omega) (by omega))];exact⟨_,rfl,rfl⟩) |(rw [dM (by rw [eI (by assumption)];first | assumption | decide),eI (by assumption)];exact⟨_,rfl,rfl⟩) |(rw [dM (by rw [eG (by assumption) (by assumption)];first | assumption | decide),eG (by assumption) (by assumption)];exact⟨_,rfl,rfl⟩) |(rw [dM (by rw [eK (by assumption) (by assumption) (by omega)];first | assumption | decide),eK (by assumption) (by assumption) (by omega)];exact⟨_,rfl,rfl⟩) |(rw [dM (by rw [eJ (by assumption) (by assumption) (by omega) (by omega)];first | assumption | decide),eJ (by assumption) (by assumption) (by omega) (by omega)];exact⟨_,rfl,rfl⟩)

theorem aNm {w0:World}{S0:Bs}{f:DFs}{ap:List Value} (h0:eS.ro w0 (FF w0 S0) f ap) (a:Int) (i:Int) (n:Int):
    Calls Tryz.prog 11 #[.agg ap.toArray,.int .i64 a,.int .i64 i,.int .i64 n] w0 (aI w0 S0 (aF3 (pY f a i n))):=by
 obtain⟨a6,a7,rfl,ae,af⟩:=cQ h0
 obtain⟨ag,ah,rfl,aq,ar,au,av⟩:=aD ae
 obtain⟨ai,aj,rfl,aw,ax,ay,az⟩:=aD af
 refine Y.enter (N:=46) Tryz.func11 rfl rfl (by simp) [(0,.agg #[.slice ag f.inodes.length ah,.slice ai f.data.length aj]),(1,.int .i64 a),(2,.int .i64 i),(3,.int .i64 n)] (by simp) (l0:= []) trivial ?_
 refine Y.seq (Y.region ?_)
 refine Y.el rfl (fR (cs:= [.slice ag f.inodes.length ah,.slice ai f.data.length aj]) (n:=2) rfl (.t .z) rfl rfl) ?_
 rintro _ _ ⟨g3,rfl,rfl⟩
 refine Y.el rfl (bD rfl aFd rfl rfl) ?_
 rintro _ _ ⟨g4,rfl,rfl⟩
 refine Y.nt (Y.seq (Y.region (Y.ql rfl (qW rfl bN (.t .g1) .g1 aX) (Y.mv rfl .g4 ?_))))
 refine Y.cl rfl rfl Tryz.func45 rfl rfl (aR (.t .g1) (.t .z)) .n (fun _ _ hs tr=>aMd (aM f (tr.ctx ae) (tr.ctx af)) _) ?_
 rintro _ _ ⟨v5,rfl,rfl⟩
 refine Y.r (.c .n) ?_
 refine Y.i (WS.a .z) ?_
 rintro⟨ac,ak,rfl,a8,a9,ba⟩
 refine Y.el rfl (bD rfl aFd rfl rfl) ?_
 rintro _ _ ⟨g8,rfl,rfl⟩
 refine Y.es (aE rfl) rfl (esW rfl (.t .z) (.t .g1) .z iX rfl rfl) ?_
 refine Y.nt (Y.seq (Y.seq (Y.region (Y.fa rfl .z vP (Y.ld rfl bR .z .z (Y.ql rfl (cC rfl (.t .z) .c) (Y.nil ?_)))))))
 refine Y.g ?_
 refine Y.ad (.t .z) (fun b9=> ?_) (fun b9=> ?_)
 have hbc:=zP b9
 refine Y.seq (Y.region (Y.ql rfl (qW rfl pK (.t .g3) .z iX) ?_))
 refine Y.es (aE rfl) rfl (esW rfl (.t .g8) (.t .z) .g2 iX rfl rfl) ?_
 refine Y.nt (Y.ret (Y.m ?_))
 refine Y.j (dA rfl .g8 pK .z iX) (.c .g2 .n) ?_
 first |(rw [tL (by assumption)];exact⟨_,rfl,rfl⟩) |(rw [sZ (by assumption) (by omega)];exact⟨_,rfl,rfl⟩) |(rw [tM (by assumption) (by omega)];exact⟨_,rfl,rfl⟩)
 have hbc:=aAd b9
 have hbb:=zB hbc
 have hbbl:(gQ f a).bytes.length=(bU f a).length:=by rw [hbb]
 have hfl:=nL (mR (nI hbc).1) a
 have ad:(gQ f a).bytes=bU f a:=hbb
 refine Y.eq .g4 (congrArg (fun z_:List UInt8=>(.agg #[.int .i64 ((gQ f a).code),.slice ac (z_).length ak]:Value)) ad) ?_
 refine Y.aj .z (congrArg (fun z_:List UInt8=>(bZ g8 31 2 1 [.int .i64 ((gQ f a).code),.slice ac (z_).length ak]:Asn)) ad) ?_
 refine Y.aj .g1 (congrArg (fun z_:List UInt8=>(aG bX (z_) [.slice ac (z_).length ak]:Asn)) ad) ?_
 refine Y.skip (Y.g (Y.seq (Y.seq (Y.region (Y.mv rfl .g11 ?_)))))
 refine Y.cl rfl rfl Tryz.func46 rfl rfl (eQ (.t .z) .c .c) .n (fun _ _ hs tr=>xG _ _ _) ?_
 rintro _ _ ⟨rfl,rfl⟩
 refine Y.r .n ?_
 refine Y.ql rfl (eY rfl (.t .z)) (Y.mv rfl .z ?_)
 refine Y.ao .z (fun g11=> ?_) (fun g11=> ?_)
 refine Y.h rfl rfl .z rfl rfl (by decide) rfl ?_
 refine Y.h rfl rfl .g1 rfl rfl (by decide) rfl ?_
 refine Y.h rfl rfl .g2 rfl rfl (by decide) rfl ?_
 refine Y.ql rfl (bB rfl (.t .g3) .c) (Y.nt ?_)
 refine Y.ap (.t .z) ?_
 refine Y.seq (Y.region (Y.ql rfl (aZ (cs:= [.int .i64 3,.slice none 0 0]) rfl qS (pv1 .c) rfl) ?_))
 refine Y.es (aE rfl) rfl (esW rfl (.t .g16) (.t .z) .g2 iX rfl rfl) ?_
 refine Y.nt (Y.ret (Y.m ?_))
 refine Y.add (c:=aG bX [] [.slice none 0 0]) (fun w S=>aK w S none) ?_
 refine Y.j (dA rfl .g16 pK .g1 iX) (.c .z .n) ?_
 first |(rw [tL (by assumption)];exact⟨_,rfl,rfl⟩) |(rw [sZ (by assumption) (by omega)];exact⟨_,rfl,rfl⟩) |(rw [tM (by assumption) (by omega)];exact⟨_,rfl,rfl⟩)
 refine Y.qg rfl rfl .z rfl rfl rfl (aS rfl (.t .g16)) ?_
 refine Y.call (dX rfl rfl .g1) rfl (by decide) rfl (bF rfl Tryz.func46 rfl rfl (eQ (.t .z) .c .c)) .n (fun _ _ hs tr=>xG _ _ _) ?_
 rintro _ _ ⟨rfl,rfl⟩
 refine Y.r .n ?_
 refine Y.qg rfl rfl .g2 rfl rfl rfl (eY rfl (.t .z)) ?_
 refine Y.ql rfl (aV rfl (.t .g3) (.t .z)) (Y.nt ?_)
 refine Y.ad (.t .z) (fun bb=> ?_) (fun bb=> ?_)
 refine Y.seq (Y.region (Y.ql rfl (aZ (cs:= [.int .i64 3,.slice none 0 0]) rfl qS (pv1 .c) rfl) ?_))
 refine Y.es (aE rfl) rfl (esW rfl (.t .g16) (.t .z) .g2 iX rfl rfl) ?_
 refine Y.nt (Y.ret (Y.m ?_))
 refine Y.add (c:=aG bX [] [.slice none 0 0]) (fun w S=>aK w S none) ?_
 refine Y.j (dA rfl .g16 pK .g1 iX) (.c .z .n) ?_
 first |(rw [tL (by assumption)];exact⟨_,rfl,rfl⟩) |(rw [sZ (by assumption) (by omega)];exact⟨_,rfl,rfl⟩) |(rw [tM (by assumption) (by omega)];exact⟨_,rfl,rfl⟩)
 refine Y.skip (Y.g (Y.seq (Y.region (Y.fa rfl .g12 sB (Y.ld rfl lR .z .g1 (Y.ql rfl (bE rfl fO (.t .z)) (Y.as rfl .z (Y.nil ?_))))))))
 refine Y.g (Y.seq (Y.region (Y.mv rfl (.s16 .g7) (Y.mv rfl .g1 ?_))))
 refine Y.cl rfl rfl Tryz.func47 rfl rfl (aR (.t .g1) (.t .z)) .n (fun _ _ hs tr=>aHi _ _) ?_
 rintro _ _ ⟨rfl,rfl⟩
 refine Y.r .n ?_
 have bc:=jC i ((bU f a).length:Int)
 refine Y.as rfl .z (Y.nt (Y.seq ?_))
 refine Y.dr .g1 12 gB ?_
 refine Y.sc (qs 1 7) (by kernel_rfl) ?_
 refine Y.df rfl rfl .g1 (.s16 .g4) sB (Y.dl rfl rfl .g1 lR .z .z (Y.dm rfl rfl .g1 .g2 (Y.dm rfl rfl .g1 .g7 (Y.dm rfl rfl .g1 .g4 (Y.dm rfl rfl .g1 (.s16 (.s16 .g1)) ?_)))))
 refine Y.dk rfl rfl .g1 (bG (c:=(eM i ((bU f a).length:Int))+n) rfl (.t .g1) (.t .z) (wr (by omega) (by omega) (by omega))) ?_
 refine Y.aa ?_
 refine Y.av (i:=0) (j:=8) (by kernel_rfl) ?_ ?_
 refine Y.e (aC rfl rfl) rfl (by decide) rfl (dW rfl fO (inz iM)) ?_
 rintro _ _ ⟨g16,rfl,rfl⟩
 refine Y.sk .g2 ?_
 refine Y.aa ?_
 refine Y.sc [(8,false),(9,true),(10,false),(11,true),(12,false)] (by kernel_rfl) ?_
 refine Y.call (aC rfl rfl) rfl (by decide) rfl (bF rfl Tryz.func47 rfl rfl (aR (.t .g4) (.t .g1))) .n (fun _ _ hs tr=>aHi _ _) ?_
 rintro _ _ ⟨rfl,rfl⟩
 refine Y.r .n ?_
 have bd:=jC ((bU f a).length:Int) ((eM i ((bU f a).length:Int))+n)
 refine Y.sk .g2 ?_
 refine Y.eq .g6 (congrArg (Value.int .i64) (show eM i ((bU f a).length:Int)=((Int.toNat (eM i ((bU f a).length:Int)):Nat):Int) by omega)) ?_
 refine Y.eq .g1 (congrArg (Value.int .i64) (show eM ((bU f a).length:Int) ((eM i ((bU f a).length:Int))+n)=((Int.toNat (eM ((bU f a).length:Int) ((eM i ((bU f a).length:Int))+n)):Nat):Int) by omega)) ?_
 obtain⟨be,aa⟩:∃A':Option Addr,A'=(if ak=Int.toNat (eM i ((bU f a).length:Int))then ac else Option.map (fun z=>Addr.add z ((Int.toNat (eM i ((bU f a).length:Int))) * 1)) ac):=⟨_,rfl⟩
 have bf:=gR (xs:=bU f a) (a:=Int.toNat (eM i ((bU f a).length:Int))) (b:=Int.toNat (eM ((bU f a).length:Int) ((eM i ((bU f a).length:Int))+n))) (by omega)
 have bg:True:=trivial
 refine Y.dk rfl rfl .g2 (jT (a:=Int.toNat (eM i ((bU f a).length:Int))) (b:=Int.toNat (eM ((bU f a).length:Int) ((eM i ((bU f a).length:Int))+n))) rfl fO wF (.t .g7) aa (.inr ⟨_,_,rfl,(.t .g1)⟩) (.inr ⟨_,_,rfl,(.t .z)⟩) (by omega) (by omega) (by omega)) ?_
 refine Y.add (c:=aG bX ([]:(List UInt8)) [.slice (some ⟨g16,0,none⟩) 0 0]) (fun w S=>aK w S _) ?_
 refine Y.e (aC rfl rfl) rfl (by decide) rfl (dU (bI _ _ _) rfl fO iM rfl (.t .g3) (.t .z) (.c .z .n) (fun w1 S1 tr=>(nD (a:=Int.toNat (eM i ((bU f a).length:Int))) (b:=Int.toNat (eM ((bU f a).length:Int) ((eM i ((bU f a).length:Int))+n))) aa (tr.own .g1) (by omega) (by omega))) (by first | omega |(simp only [List.length_append,List.length_take,List.length_nil,List.length_cons];omega)) (by first | omega |(simp only [List.length_append,List.length_take,List.length_nil,List.length_cons];omega))) ?_
 rintro _ _ rfl
 refine Y.af .z (List.nil_append _) ?_
 refine Y.i (WS.a .z) ?_
 rintro⟨al,am,rfl,a0,a1,a2⟩
 refine Y.sk .g3 ?_
 refine Y.dk rfl rfl .g3 (aZ (cs:= [.int .i64 0,.slice al (iQ (bU f a) (Int.toNat (eM i ((bU f a).length:Int))) (Int.toNat (eM ((bU f a).length:Int) ((eM i ((bU f a).length:Int))+n)))).length am]) rfl qS (pv1 (.t .z)) rfl) ?_
 refine Y.es (aC rfl rfl) rfl (esW rfl (.t (.s16 (.s16 .g3))) (.t .z) .g4 iX rfl rfl) ?_
 refine Y.sl rfl ?_
 refine Y.aa ?_
 refine Y.ai (by kernel_rfl) ?_
 refine Y.g (Y.ret ?_)
 refine Y.af (x':=yQ (bU f a) i n) .g1 (by unfold yQ;first | rfl | rw [uH (eM i _+n)]) ?_
 refine Y.j (dA rfl (.s16 (.s16 .g3)) pK .g1 iX) (.c .z .n) ?_
 first |(rw [tL (by assumption)];exact⟨_,rfl,rfl⟩) |(rw [sZ (by assumption) (by omega)];exact⟨_,rfl,rfl⟩) |(rw [tM (by assumption) (by omega)];exact⟨_,rfl,rfl⟩)
 refine Y.call (aC rfl rfl) rfl (by decide) rfl (bF rfl Tryz.func47 rfl rfl (aR (.t .g3) (.t .z))) .n (fun _ _ hs tr=>aHi _ _) ?_
 rintro _ _ ⟨rfl,rfl⟩
 refine Y.r .n ?_
 have bh:=jC ((bU f a).length:Int) ((eM i ((bU f a).length:Int))+n)
 refine Y.sk .g1 ?_
 refine Y.aa ?_
 refine Y.sc [(9,true),(0,false),(10,false),(11,true),(12,false)] (by kernel_rfl) ?_
 refine Y.eq .g5 (congrArg (Value.int .i64) (show eM i ((bU f a).length:Int)=((Int.toNat (eM i ((bU f a).length:Int)):Nat):Int) by omega)) ?_
 refine Y.eq .g1 (congrArg (Value.int .i64) (show eM ((bU f a).length:Int) ((eM i ((bU f a).length:Int))+n)=((Int.toNat (eM ((bU f a).length:Int) ((eM i ((bU f a).length:Int))+n)):Nat):Int) by omega)) ?_
 obtain⟨bi,ab⟩:∃A':Option Addr,A'=(if ak=Int.toNat (eM i ((bU f a).length:Int))then ac else Option.map (fun z=>Addr.add z ((Int.toNat (eM i ((bU f a).length:Int))) * 1)) ac):=⟨_,rfl⟩
 have bj:=gR (xs:=bU f a) (a:=Int.toNat (eM i ((bU f a).length:Int))) (b:=Int.toNat (eM ((bU f a).length:Int) ((eM i ((bU f a).length:Int))+n))) (by omega)
 have bk:True:=trivial
 refine Y.dk rfl rfl .g1 (jT (a:=Int.toNat (eM i ((bU f a).length:Int))) (b:=Int.toNat (eM ((bU f a).length:Int) ((eM i ((bU f a).length:Int))+n))) rfl fO wF (.t .g6) ab (.inr ⟨_,_,rfl,(.t .g1)⟩) (.inr ⟨_,_,rfl,(.t .z)⟩) (by omega) (by omega) (by omega)) ?_
 refine Y.e (aC rfl rfl) rfl (by decide) rfl (dW rfl fO (inz iM)) ?_
 rintro _ _ ⟨g25,rfl,rfl⟩
 refine Y.sk .g2 ?_
 refine Y.add (c:=aG bX ([]:(List UInt8)) [.slice (some ⟨g25,0,none⟩) 0 0]) (fun w S=>aK w S _) ?_
 refine Y.e (aC rfl rfl) rfl (by decide) rfl (dU (bI _ _ _) rfl fO iM rfl (.t .z) (.t .g1) (.c .z .n) (fun w1 S1 tr=>(nD (a:=Int.toNat (eM i ((bU f a).length:Int))) (b:=Int.toNat (eM ((bU f a).length:Int) ((eM i ((bU f a).length:Int))+n))) ab (tr.own .g1) (by omega) (by omega))) (by first | omega |(simp only [List.length_append,List.length_take,List.length_nil,List.length_cons];omega)) (by first | omega |(simp only [List.length_append,List.length_take,List.length_nil,List.length_cons];omega))) ?_
 rintro _ _ rfl
 refine Y.af .z (List.nil_append _) ?_
 refine Y.i (WS.a .z) ?_
 rintro⟨an,ao,rfl,a3,a4,a5⟩
 refine Y.sk .g3 ?_
 refine Y.dk rfl rfl .g3 (aZ (cs:= [.int .i64 0,.slice an (iQ (bU f a) (Int.toNat (eM i ((bU f a).length:Int))) (Int.toNat (eM ((bU f a).length:Int) ((eM i ((bU f a).length:Int))+n)))).length ao]) rfl qS (pv1 (.t .z)) rfl) ?_
 refine Y.es (aC rfl rfl) rfl (esW rfl (.t (.s16 (.s16 .g3))) (.t .z) .g4 iX rfl rfl) ?_
 refine Y.sl rfl ?_
 refine Y.aa ?_
 refine Y.ai (by kernel_rfl) ?_
 refine Y.g (Y.ret ?_)
 refine Y.af (x':=yQ (bU f a) i n) .g1 (by unfold yQ;first | rfl | rw [uH (eM i _+n)]) ?_
 refine Y.j (dA rfl (.s16 (.s16 .g3)) pK .g1 iX) (.c .z .n) ?_
 first |(rw [tL (by assumption)];exact⟨_,rfl,rfl⟩) |(rw [sZ (by assumption) (by omega)];exact⟨_,rfl,rfl⟩) |(rw [tM (by assumption) (by omega)];exact⟨_,rfl,rfl⟩)

end Go.Proofs.YtmejbfmhaoilmaaGreat

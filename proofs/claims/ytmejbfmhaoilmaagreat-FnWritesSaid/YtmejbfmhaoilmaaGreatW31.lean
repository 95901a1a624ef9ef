/- What is proved: contracts of functions, one a function. No condition. -/
import Derived.Test.YtmejbfmhaoilmaaGreatBase1
import Derived.Test.YtmejbfmhaoilmaaGreatW24
namespace Go.Proofs.YtmejbfmhaoilmaaGreat
open Go Go.RowKit
set_option linter.unusedVariables false
set_option linter.unusedSimpArgs false
set_option maxHeartbeats 1000000
set_option maxRecDepth 20000
theorem aIc {w0:World}{S0:Bs}{x:(List UInt8)}{v0:Value} (h0:bQ.ro w0 (FF w0 S0) x [v0]):
    Calls Tryz.prog 89 #[v0] w0 (aJ w0 S0 (fun r l=>l= [aG bQ x [r]])):=by
 obtain⟨A0,c0,rfl,ae,af,ag,aa⟩:=aD h0
 refine Y.enter (N:=8) Tryz.func89 rfl rfl (by simp) [(0,.slice A0 x.length c0)] (by simp) (l0:= []) trivial ?_
 refine Y.seq (Y.region (Y.ql rfl (aA rfl .c) (Y.nt (Y.seq (Y.seq (Y.region (Y.mv rfl .g1 ?_)))))))
 refine Y.ql rfl (vE rfl dP (.t .z) .c) (Y.nt ?_)
 refine Y.cond (.t .z) (fun b2=> ?_) (fun b2=> ?_)
 refine Y.seq (Y.region (Y.er .g2 (Y.ql rfl (aA rfl .c) (Y.nt (Y.ret (Y.j ?_))))))
 refine Y.add (c:=aG bQ [] [.slice none 0 0]) (fun w S=>aL w S none) ?_
 refine Y.ah .z (aAk aa (by assumption)) ?_
 refine Y.i (aT rfl .z) (.c .z .n) ?_
 rfl
 refine Y.skip (Y.g (Y.seq (Y.region ?_)))
 refine Y.el rfl (dZ rfl dP (inz iQ)) ?_
 rintro _ _ ⟨g4,rfl,rfl⟩
 refine Y.mv rfl .g4 ?_
 refine Y.add (c:=aG bQ ([]:(List UInt8)) [.slice (some ⟨g4,0,none⟩) 0 0]) (fun w S=>aL w S _) ?_
 refine Y.el rfl (dY (bI _ _ _) rfl dP iQ rfl (.t .g1) (.t .z) (.c .z .n) (fun w1 S1 tr=>tr.ctx h0) (by first | omega |(simp only [List.length_append,List.length_take,List.length_nil,List.length_cons];omega)) (by first | omega |(simp only [List.length_append,List.length_take,List.length_nil,List.length_cons];omega))) ?_
 rintro _ _ rfl
 refine Y.ah .z (List.nil_append _) ?_
 refine Y.h (WS.a .z) ?_
 rintro⟨ah,ai,rfl,ab,ac,ad⟩
 refine Y.er .g5 (Y.as rfl .z (Y.nt (Y.ret ?_)))
 refine Y.i (aT rfl .z) (.c .z .n) ?_
 rfl

theorem aJa {w0:World}{S0:Bs}{f:DFs}{a1:List Value} (h0:fD.ro w0 (FF w0 S0) f a1) (a:Int):
    Calls Tryz.prog 43 #[.agg a1.toArray,.int .i64 a] w0 (aJ w0 S0 (fun r l=>r= .int .i64 (bX f a)∧l= [])):=by
 obtain⟨bf,bg,rfl,aa,ab⟩:=cV h0
 obtain⟨ac,ad,rfl,a2,a3,a4,ae⟩:=aD aa
 obtain⟨af,ag,rfl,a5,a6,a7,a8⟩:=aD ab
 refine Y.enter (N:=36) Tryz.func43 rfl rfl (by simp) [(0,.agg #[.slice ac f.inodes.length ad,.slice af f.data.length ag]),(1,.int .i64 a)] (by simp) (l0:= []) trivial ?_
 refine Y.seq (Y.region ?_)
 refine Y.el rfl (gL (cs:= [.slice ac f.inodes.length ad,.slice af f.data.length ag]) (n:=2) rfl (.t .z) rfl rfl) ?_
 rintro _ _ ⟨g3,rfl,rfl⟩
 refine Y.ql rfl (aA rfl .c) (Y.nt (Y.seq (Y.region (Y.ql rfl (qW rfl bR (.t .g1) .z aX) ?_))))
 refine Y.cl rfl rfl Tryz.func54 rfl rfl (bH (.t .z)) .n (fun _ _ hs tr=>aL8 (aK f (tr.ctx aa) (tr.ctx ab))) ?_
 rintro _ _ ⟨rfl,rfl⟩
 refine Y.m .n ?_
 refine Y.as rfl .z (Y.nt (Y.seq (Y.block (Y.seq (Y.region (Y.mv rfl .z (Y.ql rfl (bY rfl (.t .z) .c) ?_)))))))
 refine Y.as rfl .z (Y.nt ?_)
 refine Y.ac (.t .z) (fun b4=> ?_) (fun b4=> ?_)
 refine Y.seq (Y.region (Y.mv rfl .g3 (Y.er .g7 (Y.as rfl .z (Y.nt (Y.ret (Y.v ?_)))))))
 refine Y.j ?_
 refine Y.i (aT rfl .z) .n ?_
 exact⟨by first |(rw [eL (by assumption)];done) |(rw [eK (by assumption) (by assumption)];done) |(rw [eJ (by assumption) (by assumption) (by omega)];done) |(rw [eI (by assumption) (by assumption) (by omega) (by omega)];done) |(rw [gM (by assumption) (by assumption) (by omega) (by omega)];done),rfl⟩
 have ao:=mK b4
 have ap:=kH ao
 refine Y.seq (Y.region (Y.mv rfl .g9 (Y.fa rfl .g8 aO (Y.ld rfl bT .z .z ?_))))
 refine Y.cl rfl rfl Tryz.func85 rfl rfl (bH (.t .z)) .n (fun _ _ hs tr=>aKj (tr.ctx aa)) ?_
 rintro _ _ ⟨rfl,rfl⟩
 refine Y.m .n ?_
 refine Y.ql rfl (jZ (c:=(f.inodes.length:Int) - 1) rfl (.t .z) .c (wr (by omega) (by omega) (by omega))) ?_
 refine Y.cl rfl rfl Tryz.func84 rfl rfl (eS (.t .g4) .c (.t .z)) .n (fun _ _ hs tr=>uG _ _ _) ?_
 rintro _ _ ⟨rfl,rfl⟩
 refine Y.m .n ?_
 refine Y.ql rfl (fB rfl (.t .z)) (Y.as rfl .z (Y.nt ?_))
 refine Y.ac (.t .z) (fun b6=> ?_) (fun b6=> ?_)
 refine Y.seq (Y.region (Y.er .g14 (Y.ql rfl (aA rfl .c) (Y.nt (Y.ret (Y.v (Y.j ?_)))))))
 refine Y.i (aT rfl .z) .n ?_
 exact⟨by first |(rw [eL (by assumption)];done) |(rw [eK (by assumption) (by assumption)];done) |(rw [eJ (by assumption) (by assumption) (by omega)];done) |(rw [eI (by assumption) (by assumption) (by omega) (by omega)];done) |(rw [gM (by assumption) (by assumption) (by omega) (by omega)];done),rfl⟩
 refine Y.seq (Y.region (Y.fa rfl .g15 aO (Y.ld rfl bT .z .z (Y.mv rfl (.s16 .g3) ?_))))
 obtain⟨bm,ah,ai⟩:=ae (by omega)
 subst ah
 obtain⟨x8,an⟩:=aI (xs:=f.inodes) (j:=Int.toNat a) (by omega)
 obtain⟨bh,aq,aj,ak⟩:=ai.elem an
 obtain⟨a9,ba,rfl,al,am⟩:=cM aq
 obtain⟨bb,bc,rfl,ar,au,av,aw⟩:=aD al
 obtain⟨bd,be,rfl,ax,ay,az,a0⟩:=aD am
 have bn:=dC (i:=a) an (by omega)
 have bo:=dE (a:=a) an (by omega)
 have bi:=dK ap _ (List.mem_of_getElem? an)
 refine Y.ql rfl (aB (j:=Int.toNat a) rfl cQ aV (.t .g1) (.t .z) (by omega) (by omega)) ?_
 refine Y.fa rfl .z cA (Y.le rfl cB .z aj ak (Y.ql rfl (bU rfl (.t .z) .c) (Y.as rfl .z (Y.nt ?_))))
 refine Y.u (.t .z) (fun bj=> ?_) (fun bj=> ?_)
 refine Y.seq (Y.region (Y.er (.s16 .g6) (Y.ql rfl (aA rfl .c) (Y.nt (Y.ret (Y.v (Y.j ?_)))))))
 refine Y.i (aT rfl .z) .n ?_
 exact⟨by first |(rw [eL (by assumption)];done) |(rw [eK (by assumption) (by assumption)];done) |(rw [eJ (by assumption) (by assumption) (by omega)];done) |(rw [eI (by assumption) (by assumption) (by omega) (by omega)];done) |(rw [gM (by assumption) (by assumption) (by omega) (by omega)];done),rfl⟩
 refine Y.seq (Y.region (Y.fa rfl (.s16 .g7) aO (Y.ld rfl bT .z .z (Y.mv rfl (.s16 .g11) ?_))))
 refine Y.ql rfl (aB (j:=Int.toNat a) rfl cQ aV (.t .g1) (.t .z) (by omega) (by omega)) ?_
 refine Y.fa rfl .z cA (Y.le rfl cB .z aj ak (Y.ql rfl (bU rfl (.t .z) .c) (Y.as rfl .z (Y.nt ?_))))
 refine Y.u (.t .z) (fun bk=> ?_) (fun bk=> ?_)
 refine Y.seq (Y.region (Y.er (.s16 .g14) (Y.ql rfl (aA rfl .c) (Y.nt (Y.ret (Y.v (Y.j ?_)))))))
 refine Y.i (aT rfl .z) .n ?_
 exact⟨by first |(rw [eL (by assumption)];done) |(rw [eK (by assumption) (by assumption)];done) |(rw [eJ (by assumption) (by assumption) (by omega)];done) |(rw [eI (by assumption) (by assumption) (by omega) (by omega)];done) |(rw [gM (by assumption) (by assumption) (by omega) (by omega)];done),rfl⟩
 refine Y.skip (Y.w (Y.g (Y.seq (Y.region (Y.er (.s16 .g14) (Y.ql rfl (aA rfl .c) (Y.nt ?_)))))))
 refine Y.ret ?_
 refine Y.i (aT rfl .z) .n ?_
 exact⟨by first |(rw [eL (by assumption)];done) |(rw [eK (by assumption) (by assumption)];done) |(rw [eJ (by assumption) (by assumption) (by omega)];done) |(rw [eI (by assumption) (by assumption) (by omega) (by omega)];done) |(rw [gM (by assumption) (by assumption) (by omega) (by omega)];done),rfl⟩

theorem aJ8 {w0:World}{S0:Bs}{f:DFs}{a1:Addr} (h0:gK fD w0 (FF w0 S0) a1 f) (a:Int) (ht:bL f=0) (hp:bZ f.inodes.length a):
    Calls Tryz.prog 48 #[.pointer (some a1),.int .i64 a] w0 (aJ w0 S0 (fun r l=>l= [aG bQ (bB f a) [r]])):=by
 obtain⟨cp,bi,b8,bj⟩:=id h0
 obtain⟨ca,cb,rfl,a2,a3⟩:=cV b8
 obtain⟨cc,cd,rfl,bk,bm,bn,al⟩:=aD a2
 obtain⟨ce,cf,rfl,bo,bp,bq,am⟩:=aD a3
 have hI:=kH ht
 have cg:=kU ht
 obtain⟨cq,cr⟩:=hp
 refine Y.enter (N:=32) Tryz.func48 rfl rfl (by simp) [(0,.pointer (some a1)),(1,.int .i64 a)] (by simp) (l0:= []) trivial ?_
 refine Y.seq (Y.region (Y.ql rfl (aA rfl .c) (Y.nt (Y.seq (Y.region (Y.ql rfl (aA rfl .c) (Y.nil ?_)))))))
 refine Y.g (Y.seq (Y.seq (Y.region (Y.mv rfl .g2 (Y.nc rfl .z (Y.fa rfl .z aO (Y.le rfl bT .z bi bj (Y.mv rfl .g7 ?_))))))))
 obtain⟨cs,an,ao⟩:=al (by omega)
 subst an
 obtain⟨x4,ap⟩:=aI (xs:=f.inodes) (j:=Int.toNat a) (by omega)
 obtain⟨ch,a4,a5,a6⟩:=ao.elem ap
 obtain⟨br,bt,rfl,aq,ar⟩:=cM a4
 obtain⟨au,av,rfl,a7,a8,a9,ae⟩:=aD aq
 obtain⟨bu,bv,rfl,ba,bb,bc,bd⟩:=aD ar
 have ct:=dC (i:=a) ap (by omega)
 have cu:=dE (a:=a) ap (by omega)
 have be:=dK hI _ (List.mem_of_getElem? ap)
 have bf:=lQ (a:=a) ap (by omega)
 have b4x4:=kB be
 refine Y.ql rfl (aB (j:=Int.toNat a) rfl cQ aV (.t .g1) (.t .z) (by omega) (by omega)) ?_
 refine Y.fa rfl .z dB (Y.le rfl fA .z a5 a6 (Y.ql rfl (bE rfl dW (.t .z)) (Y.ql rfl (aN rfl .c) (Y.nt (Y.block ?_)))))
 refine Y.add (c:=aG bQ [] [.slice none 0 0]) (fun w S=>aL w S none) ?_
 refine Y.ak (γ:=Nat×(Option Addr)×Nat) (fun⟨k,aa,ab⟩=> [(17,.int .i64 (k:Int)),(16,.int .i64 (x4.blocks.length:Int)),(15,.slice au x4.blocks.length av),(5,.slice aa (hU f.data x4.blocks k).length ab),(4,.slice none 0 0),(0,.pointer (some a1))]) (fun⟨k,aa,ab⟩=> [aG bQ (hU f.data x4.blocks k) [.slice aa (hU f.data x4.blocks k).length ab]]) (fun⟨k,aa,ab⟩=>k≤x4.blocks.length) (fun⟨k,aa,ab⟩=>x4.blocks.length - k) (0,none,0) (Nat.zero_le _) (.c .z (.c .g1 (.c .g2 (.c .g10 (.c .g11 (.c .g12 .n)))))) (fun _ h=>h.sel (.c .z .n)) ?_
 rintro⟨k,aa,ab⟩ hk
 have hbl:=qI (data:=f.data) (bs:=x4.blocks) k b4x4.1 (uH ht)
 refine Y.seq (Y.region (Y.ql rfl (cR rfl (.t .z) (.t .g1)) (Y.nt (Y.seq ?_))))
 refine Y.u (.t .z) (fun b9=> ?_) (fun b9=> ?_)
 refine Y.skip (Y.g (Y.seq (Y.block (Y.seq (Y.region ?_)))))
 obtain⟨ci,af,ag⟩:=ae (by omega)
 subst af
 obtain⟨bw,ah⟩:=aI (xs:=x4.blocks) (j:=k) (by omega)
 obtain⟨bx,aw,ax,ay⟩:=ag.elem ah
 obtain⟨rfl,cj⟩:=aw
 have bz:=b4x4.2 _ (List.mem_of_getElem? ah)
 refine Y.ql rfl (aB (j:=k) rfl dW jC (.t .g3) (.t .g1) rfl (by omega)) ?_
 refine Y.ql rfl (aP rfl cB (.t .z) (WS.m ax ay rfl)) (Y.as rfl .z (Y.nt (Y.region (Y.mv rfl .g7 (Y.mv rfl .g10 (Y.nc rfl .z (Y.fa rfl .z gF ?_)))))))
 refine Y.le rfl lE .z bi bj (Y.mv rfl .g5 ?_)
 obtain⟨ck,ai,aj⟩:=am (by omega)
 subst ai
 obtain⟨cv,ak⟩:=aI (xs:=f.data) (j:=Int.toNat bw) (by omega)
 obtain⟨b0,ac,az,a0⟩:=aj.elem ak
 obtain⟨cm,rfl⟩:=lV ac
 obtain⟨cn,co,rfl,b1,b2,b3,b4⟩:=aD ac
 have p8x14:=uH ht _ (List.mem_of_getElem? ak)
 refine Y.ql rfl (aB (j:=Int.toNat bw) rfl mU lF (.t .g1) (.t .z) (by omega) (by omega)) ?_
 refine Y.ql rfl (aP rfl nN (.t .z) (WS.m az a0 rfl)) ?_
 refine Y.el rfl (dY (bI _ _ _) rfl dP iQ rfl (.t .g7) (.t .z) (.c .z .n) (fun w1 S1 tr=>tr.ctx ac) (by first | omega |(simp only [List.length_append,List.length_take,List.length_nil,List.length_cons];omega)) (by first | omega |(simp only [List.length_append,List.length_take,List.length_nil,List.length_cons];omega))) ?_
 rintro _ _ rfl
 refine Y.ah .z (yD ah ak) ?_
 refine Y.h (WS.a .z) ?_
 rintro⟨bg,bh,rfl,b5,b6,b7⟩
 refine Y.er .g16 (Y.as rfl .z (Y.nil (Y.w (Y.g (Y.region ?_)))))
 refine Y.ql rfl (bA (c:=((k+1:Nat):Int)) rfl (.t .g14) .c (wr (by omega) (by omega) (by omega))) ?_
 refine Y.er .g15 (Y.mv rfl .z (Y.nil ?_))
 refine Y.ae ((k+1),bg,bh) (by omega) (by first | omega |(dsimp only;omega)) (.c .z (.c .g16 (.c (.s16 .g1) (.c .g2 (.c (.s16 .g2) (.c (.s16 .g3) .n)))))) (fun _ h=>h.sel (.c .z .n))
 refine Y.exit (Y.y (Y.y (Y.aj (Y.g (Y.seq (Y.region (Y.mv rfl .g4 (Y.er .g6 ?_))))))))
 refine Y.as rfl .z (Y.nt (Y.ret ?_))
 have ad:hU f.data x4.blocks k=bB f a:=(by unfold bB;rw [bf];exact uQ (by omega))
 refine Y.eq .z (congrArg (fun z_=>(.slice aa (z_).length ab:Value)) ad) ?_
 refine Y.eq .g1 (congrArg (fun z_=>(.slice aa (z_).length ab:Value)) ad) ?_
 refine Y.eq .g6 (congrArg (fun z_=>(.slice aa (z_).length ab:Value)) ad) ?_
 refine Y.al .z (congrArg (fun z_=>(aG bQ (z_) [.slice aa (z_).length ab]:Asn)) ad) ?_
 refine Y.i (aT rfl .g2) (.c .z .n) ?_
 rfl

theorem aJr {w0:World}{S0:Bs}{f:DFs}{ad0:Addr} (h0:gK fD w0 (FF w0 S0) ad0 f) (a:Int):
    Calls Tryz.prog 90 #[.pointer (some ad0),.int .i64 a] w0 (aJ w0 S0 (fun r l=>r= .bool (decide (bZ f.inodes.length a))∧l= [])):=by
 obtain⟨ec0,hF0,hr0,hc0⟩:=id h0
 obtain⟨u0_0,u0_1,rfl,h0_0,h0_1⟩:=cV hr0
 obtain⟨A0_0,c0_0,rfl,hl0_0,hm0_0,hb0_0,he0_0⟩:=aD h0_0
 obtain⟨A0_1,c0_1,rfl,hl0_1,hm0_1,hb0_1,he0_1⟩:=aD h0_1
 refine Y.enter (N:=13) Tryz.func90 rfl rfl (by simp) [(0,.pointer (some ad0)),(1,.int .i64 a)] (by simp) (l0:= []) trivial ?_
 refine Y.seq (Y.region (Y.ql rfl (aA rfl .c) (Y.nt (Y.seq (Y.region (Y.mv rfl .g2 (Y.mv rfl .g2 ?_)))))))
 refine Y.nc rfl .z (Y.fa rfl .z aO (Y.le rfl bT .z hF0 hc0 (Y.ql rfl (bE rfl cQ (.t .z)) ?_)))
 refine Y.ql rfl (jZ (c:=(f.inodes.length:Int) - 1) rfl (.t .z) .c (wr (by omega) (by omega) (by omega))) ?_
 refine Y.cl rfl rfl Tryz.func46 rfl rfl (eS (.t .g6) .c (.t .z)) .n (fun _ _ hs tr=>wP _ _ _) ?_
 rintro _ _ ⟨rfl,rfl⟩
 refine Y.m .n ?_
 refine Y.er .g8 (Y.as rfl .z (Y.nt (Y.ret ?_)))
 refine Y.i (aT rfl .z) .n ?_
 exact⟨rfl,rfl⟩

theorem aJd {w0:World}{S0:Bs}{f:DFs}{a1:Addr} (h0:gK fD w0 (FF w0 S0) a1 f) (a:Int) (ht:bL f=0) (hp:bZ f.inodes.length a):
    Calls Tryz.prog 68 #[.pointer (some a1),.int .i64 a] w0 (aJ w0 S0 (fun r l=>l= [aG bQ (bB f a) [r]])):=by
 obtain⟨cq,bg,b8,bh⟩:=id h0
 obtain⟨b9,ca,rfl,a2,a3⟩:=cV b8
 obtain⟨cb,cc,rfl,bi,bj,bk,al⟩:=aD a2
 obtain⟨cd,ce,rfl,bm,bn,bo,am⟩:=aD a3
 have hI:=kH ht
 have cf:=kU ht
 obtain⟨cr,cs⟩:=hp
 refine Y.enter (N:=40) Tryz.func68 rfl rfl (by simp) [(0,.pointer (some a1)),(1,.int .i64 a)] (by simp) (l0:= []) trivial ?_
 refine Y.seq (Y.region (Y.ql rfl (aA rfl .c) (Y.nt (Y.seq (Y.region ?_)))))
 refine Y.el rfl (dZ rfl dP (inz iQ)) ?_
 rintro _ _ ⟨g3,rfl,rfl⟩
 refine Y.as rfl .z (Y.nt (Y.seq (Y.region (Y.mv rfl .g3 (Y.nc rfl .z (Y.fa rfl .z aO (Y.le rfl bT .z bg bh ?_)))))))
 refine Y.mv rfl .g8 ?_
 obtain⟨cg,an,ao⟩:=al (by omega)
 subst an
 obtain⟨x5,ap⟩:=aI (xs:=f.inodes) (j:=Int.toNat a) (by omega)
 obtain⟨ch,a4,aq,ar⟩:=ao.elem ap
 obtain⟨bp,bq,rfl,au,av⟩:=cM a4
 obtain⟨br,bt,rfl,a5,a6,a7,ae⟩:=aD au
 obtain⟨bu,bv,rfl,a8,a9,ba,bb⟩:=aD av
 have ct:=dC (i:=a) ap (by omega)
 have cu:=dE (a:=a) ap (by omega)
 have bc:=dK hI _ (List.mem_of_getElem? ap)
 have bd:=lQ (a:=a) ap (by omega)
 have b4x5:=kB bc
 refine Y.ql rfl (aB (j:=Int.toNat a) rfl cQ aV (.t .g1) (.t .z) (by omega) (by omega)) ?_
 refine Y.as rfl .z (Y.nt (Y.seq (Y.seq (Y.region (Y.ql rfl (aA rfl .c) (Y.nt ?_))))))
 refine Y.block ?_
 refine Y.add (c:=aG bQ ([]:(List UInt8)) [.slice (some ⟨g3,0,none⟩) 0 0]) (fun w S=>aL w S _) ?_
 refine Y.ak (γ:=Nat×(Option Addr)×Nat) (fun⟨k,aa,ab⟩=> [(7,.int .i64 (k:Int)),(6,.pointer (some (Addr.add cg ((Int.toNat a) * 5)))),(5,.slice aa (hU f.data x5.blocks k).length ab),(4,.slice none 0 0),(0,.pointer (some a1))]) (fun⟨k,aa,ab⟩=> [aG bQ (hU f.data x5.blocks k) [.slice aa (hU f.data x5.blocks k).length ab],bW g3 5 1 0 []]) (fun⟨k,aa,ab⟩=>k≤x5.blocks.length) (fun⟨k,aa,ab⟩=>x5.blocks.length - k) (0,(some ⟨g3,0,none⟩),0) (Nat.zero_le _) (.c .z (.c .g1 (.c .g8 (.c .g10 (.c .g11 .n))))) (fun _ h=>h.sel (.c .z (.c .z .n))) ?_
 rintro⟨k,aa,ab⟩ hk
 have hbl:=qI (data:=f.data) (bs:=x5.blocks) k b4x5.1 (uH ht)
 refine Y.seq (Y.seq (Y.region (Y.mv rfl .z (Y.mv rfl .g2 (Y.nc rfl .z (Y.fa rfl .z dB (Y.le rfl fA .z aq ar (Y.ql rfl (bE rfl dW (.t .z)) ?_))))))))
 refine Y.ql rfl (cR rfl (.t .g5) (.t .z)) (Y.nt ?_)
 refine Y.u (.t .z) (fun ci=> ?_) (fun ci=> ?_)
 refine Y.skip (Y.g (Y.seq (Y.block ?_)))
 refine Y.dr .g1 15 gE ?_
 refine Y.sc (qs 0 14++ [(14,false),(15,false)]) (by kernel_rfl) ?_
 refine Y.dm rfl rfl .g1 .g9 (Y.dm rfl rfl .g1 .g12 (Y.dn rfl rfl .g1 .z (Y.df rfl rfl .g1 .z gF (Y.de rfl rfl .g1 lE .z bg bh (Y.dm rfl rfl .g1 .g13 (Y.dn rfl rfl .g1 .z (Y.df rfl rfl .g1 .z dB (Y.de rfl rfl .g1 fA .z aq ar ?_))))))))
 refine Y.dm rfl rfl .g1 .g16 ?_
 obtain⟨cj,af,ag⟩:=ae (by omega)
 subst af
 obtain⟨bw,ah⟩:=aI (xs:=x5.blocks) (j:=k) (by omega)
 obtain⟨bx,aw,ax,ay⟩:=ag.elem ah
 obtain⟨rfl,ck⟩:=aw
 have bz:=b4x5.2 _ (List.mem_of_getElem? ah)
 refine Y.dk rfl rfl .g1 (aB (j:=k) rfl dW jC (.t .g1) (.t .z) rfl (by omega)) ?_
 refine Y.dk rfl rfl .g1 (aP rfl cB (.t .z) (WS.m ax ay rfl)) ?_
 obtain⟨cm,ai,aj⟩:=am (by omega)
 subst ai
 obtain⟨cv,ak⟩:=aI (xs:=f.data) (j:=Int.toNat bw) (by omega)
 obtain⟨b0,ac,az,a0⟩:=aj.elem ak
 obtain⟨cn,rfl⟩:=lV ac
 obtain⟨co,cp,rfl,b1,b2,b3,b4⟩:=aD ac
 have p8x15:=uH ht _ (List.mem_of_getElem? ak)
 refine Y.dk rfl rfl .g1 (aB (j:=Int.toNat bw) rfl mU lF (.t .g7) (.t .z) (by omega) (by omega)) ?_
 refine Y.dk rfl rfl .g1 (aP rfl nN (.t .z) (WS.m az a0 rfl)) ?_
 refine Y.e (aC rfl rfl) rfl (by decide) rfl (dY (bI _ _ _) rfl dP iQ rfl (.t .g13) (.t .z) (.c .z .n) (fun w1 S1 tr=>tr.ctx ac) (by first | omega |(simp only [List.length_append,List.length_take,List.length_nil,List.length_cons];omega)) (by first | omega |(simp only [List.length_append,List.length_take,List.length_nil,List.length_cons];omega))) ?_
 rintro _ _ rfl
 refine Y.ah .z (yD ah ak) ?_
 refine Y.h (WS.a .z) ?_
 rintro⟨be,bf,rfl,b5,b6,b7⟩
 refine Y.sk .g1 ?_
 refine Y.er (.s16 .g8) ?_
 refine Y.q (aC rfl rfl) rfl (by decide) rfl (aA rfl (.t .z)) ?_
 refine Y.sl rfl ?_
 refine Y.aa ?_
 refine Y.ai (by kernel_rfl) ?_
 refine Y.w (Y.g (Y.region (Y.mv rfl (.s16 .g7) ?_)))
 refine Y.ql rfl (bA (c:=((k+1:Nat):Int)) rfl (.t .z) .c (wr (by omega) (by omega) (by omega))) ?_
 refine Y.er (.s16 .g9) (Y.as rfl .z (Y.nil ?_))
 refine Y.ae ((k+1),be,bf) (by omega) (by first | omega |(dsimp only;omega)) (.c .z (.c (.s16 .g10) (.c .g3 (.c (.s16 .g11) (.c (.s16 .g12) .n))))) (fun _ h=>h.sel (.c .z (.c .z .n)))
 refine Y.exit (Y.y (Y.y (Y.aj (Y.g (Y.seq (Y.region (Y.mv rfl .g9 (Y.er .g11 ?_))))))))
 refine Y.as rfl .z (Y.nt (Y.ret ?_))
 have ad:hU f.data x5.blocks k=bB f a:=(by unfold bB;rw [bd];exact uQ (by omega))
 refine Y.eq .z (congrArg (fun z_=>(.slice aa (z_).length ab:Value)) ad) ?_
 refine Y.eq .g1 (congrArg (fun z_=>(.slice aa (z_).length ab:Value)) ad) ?_
 refine Y.eq .g11 (congrArg (fun z_=>(.slice aa (z_).length ab:Value)) ad) ?_
 refine Y.al .z (congrArg (fun z_=>(aG bQ (z_) [.slice aa (z_).length ab]:Asn)) ad) ?_
 refine Y.i (aT rfl .g2) (.c .z .n) ?_
 rfl

theorem aA6 {w0:World}{S0:Bs}{f:DFs}{aj:List Value} (h0:fD.ro w0 (FF w0 S0) f aj) (a:Int):
    Calls Tryz.prog 13 #[.agg aj.toArray,.int .i64 a] w0 (aJ w0 S0 (aEj (bO f a))):=by
 obtain⟨au,av,rfl,aa,ab⟩:=cV h0
 obtain⟨ac,ad,rfl,ak,al,am,an⟩:=aD aa
 obtain⟨ae,af,rfl,ao,ap,aq,ar⟩:=aD ab
 refine Y.enter (N:=16) Tryz.func13 rfl rfl (by simp) [(0,.agg #[.slice ac f.inodes.length ad,.slice ae f.data.length af]),(1,.int .i64 a)] (by simp) (l0:= []) trivial ?_
 refine Y.seq (Y.region ?_)
 refine Y.el rfl (gL (cs:= [.slice ac f.inodes.length ad,.slice ae f.data.length af]) (n:=2) rfl (.t .z) rfl rfl) ?_
 rintro _ _ ⟨g3,rfl,rfl⟩
 refine Y.el rfl (bP rfl aFh rfl rfl) ?_
 rintro _ _ ⟨g4,rfl,rfl⟩
 refine Y.nt (Y.seq (Y.seq (Y.region (Y.ql rfl (qW rfl bR (.t .g1) .g1 aX) (Y.mv rfl .g4 ?_)))))
 refine Y.cl rfl rfl Tryz.func43 rfl rfl (aR (.t .g1) (.t .z)) .n (fun _ _ hs tr=>aJa (aK f (tr.ctx aa) (tr.ctx ab)) _) ?_
 rintro _ _ ⟨rfl,rfl⟩
 refine Y.m .n ?_
 refine Y.as rfl .z (Y.nt (Y.seq (Y.region (Y.mv rfl .z (Y.ql rfl (bY rfl (.t .z) .c) (Y.nt ?_))))))
 refine Y.ac (.t .z) (fun b5=> ?_) (fun b5=> ?_)
 refine Y.seq (Y.region (Y.mv rfl .g2 ?_))
 refine Y.ql rfl (bC (cs:= [.int .i64 (bX f a),.slice none 0 0]) rfl pP (pv1 (.t .z)) rfl) ?_
 refine Y.es (aE rfl) rfl (esW rfl (.t .g8) (.t .z) .z iL rfl rfl) ?_
 refine Y.nt (Y.ret (Y.j ?_))
 refine Y.add (c:=aG bQ [] [.slice none 0 0]) (fun w S=>aL w S none) ?_
 refine Y.i (dF rfl .g8 nZ .g1 iL) (.c .z .n) ?_
 first |(rw [dL (by assumption)];exact⟨_,rfl,rfl⟩) |(rw [fZ (by assumption)];exact⟨_,rfl,rfl⟩) |(rw [fZ (gM (by assumption) (by assumption) (by omega) (by omega))];exact⟨_,rfl,rfl⟩) |(rw [dL (by rw [eL (by assumption)];first | assumption | decide),eL (by assumption)];exact⟨_,rfl,rfl⟩) |(rw [dL (by rw [eK (by assumption) (by assumption)];first | assumption | decide),eK (by assumption) (by assumption)];exact⟨_,rfl,rfl⟩) |(rw [dL (by rw [eJ (by assumption) (by assumption) (by omega)];first | assumption | decide),eJ (by assumption) (by assumption) (by omega)];exact⟨_,rfl,rfl⟩) |(rw [dL (by rw [eI (by assumption) (by assumption) (by omega) (by omega)];first | assumption | decide),eI (by assumption) (by assumption) (by omega) (by omega)];exact⟨_,rfl,rfl⟩)
 obtain⟨ah,⟨aw,ax⟩,ay,az⟩:=oY b5
 have ag:=mK ah
 have ai:=kH ag
 have a0:=kU ag
 have a1:=lP ai a
 refine Y.skip (Y.g (Y.seq (Y.region (Y.mv rfl .g9 ?_))))
 refine Y.cl rfl rfl Tryz.func48 rfl rfl (aR (.t .g8) (.t .z)) .n (fun _ _ hs tr=>aJ8 (tr.ptr .g1 (aK f (tr.ctx aa) (tr.ctx ab))) _ (by assumption) (by first | assumption |(constructor <;> omega))) ?_
 rintro _ _ rfl
 refine Y.m (.c .n) ?_
 refine Y.h (WS.a .z) ?_
 rintro⟨a2,a3,rfl,a4,a5,a6⟩
 refine Y.ql rfl (bC (cs:= [.int .i64 0,.slice a2 (bB f a).length a3]) rfl pP (pv1 (.t .z)) rfl) ?_
 refine Y.es (aE rfl) rfl (esW rfl (.t .g9) (.t .z) .g1 iL rfl rfl) ?_
 refine Y.nt (Y.ret ?_)
 refine Y.i (dF rfl .g9 nZ .z iL) (.c .g1 .n) ?_
 first |(rw [dL (by assumption)];exact⟨_,rfl,rfl⟩) |(rw [fZ (by assumption)];exact⟨_,rfl,rfl⟩) |(rw [fZ (gM (by assumption) (by assumption) (by omega) (by omega))];exact⟨_,rfl,rfl⟩) |(rw [dL (by rw [eL (by assumption)];first | assumption | decide),eL (by assumption)];exact⟨_,rfl,rfl⟩) |(rw [dL (by rw [eK (by assumption) (by assumption)];first | assumption | decide),eK (by assumption) (by assumption)];exact⟨_,rfl,rfl⟩) |(rw [dL (by rw [eJ (by assumption) (by assumption) (by omega)];first | assumption | decide),eJ (by assumption) (by assumption) (by omega)];exact⟨_,rfl,rfl⟩) |(rw [dL (by rw [eI (by assumption) (by assumption) (by omega) (by omega)];first | assumption | decide),eI (by assumption) (by assumption) (by omega) (by omega)];exact⟨_,rfl,rfl⟩)

theorem aKp {w0:World}{S0:Bs}{f:DFs}{a9:List Value} (h0:fD.ro w0 (FF w0 S0) f a9) (a:Int):
    Calls Tryz.prog 45 #[.agg a9.toArray,.int .i64 a] w0 (aJ w0 S0 (aEj (bO f a))):=by
 obtain⟨bn,bo,rfl,aa,ab⟩:=cV h0
 obtain⟨ah,ai,rfl,ba,bb,bc,aj⟩:=aD aa
 obtain⟨ak,al,rfl,bd,be,bf,bg⟩:=aD ab
 refine Y.enter (N:=30) Tryz.func45 rfl rfl (by simp) [(0,.agg #[.slice ah f.inodes.length ai,.slice ak f.data.length al]),(1,.int .i64 a)] (by simp) (l0:= []) trivial ?_
 refine Y.seq (Y.region ?_)
 refine Y.el rfl (gL (cs:= [.slice ah f.inodes.length ai,.slice ak f.data.length al]) (n:=2) rfl (.t .z) rfl rfl) ?_
 rintro _ _ ⟨g3,rfl,rfl⟩
 refine Y.el rfl (bP rfl aFh rfl rfl) ?_
 rintro _ _ ⟨g4,rfl,rfl⟩
 refine Y.nt (Y.seq (Y.seq (Y.region ?_)))
 refine Y.cl rfl rfl Tryz.func56 rfl rfl (bH (.t .g1)) .n (fun _ _ hs tr=>aK6 (tr.ptr .g1 (aK f (tr.ctx aa) (tr.ctx ab)))) ?_
 rintro _ _ ⟨rfl,rfl⟩
 refine Y.m .n ?_
 refine Y.as rfl .z (Y.nt (Y.seq (Y.region (Y.mv rfl .z (Y.ql rfl (bY rfl (.t .z) .c) (Y.nt ?_))))))
 refine Y.ac (.t .z) (fun b5=> ?_) (fun b5=> ?_)
 refine Y.seq (Y.region (Y.mv rfl .g2 (Y.ql rfl (bC (cs:= [.int .i64 (eQ f),.slice none 0 0]) rfl pP (pv1 (.t .z)) rfl) ?_)))
 refine Y.es (aE rfl) rfl (esW rfl (.t .g6) (.t .z) .z iL rfl rfl) ?_
 refine Y.nt (Y.ret (Y.j ?_))
 refine Y.add (c:=aG bQ [] [.slice none 0 0]) (fun w S=>aL w S none) ?_
 refine Y.i (dF rfl .g6 nZ .g1 iL) (.c .z .n) ?_
 first |(rw [dL (by assumption)];exact⟨_,rfl,rfl⟩) |(rw [fZ (by assumption)];exact⟨_,rfl,rfl⟩) |(rw [fZ (gM (by assumption) (by assumption) (by omega) (by omega))];exact⟨_,rfl,rfl⟩) |(rw [dL (by rw [eL (by assumption)];first | assumption | decide),eL (by assumption)];exact⟨_,rfl,rfl⟩) |(rw [dL (by rw [eK (by assumption) (by assumption)];first | assumption | decide),eK (by assumption) (by assumption)];exact⟨_,rfl,rfl⟩) |(rw [dL (by rw [eJ (by assumption) (by assumption) (by omega)];first | assumption | decide),eJ (by assumption) (by assumption) (by omega)];exact⟨_,rfl,rfl⟩) |(rw [dL (by rw [eI (by assumption) (by assumption) (by omega) (by omega)];first | assumption | decide),eI (by assumption) (by assumption) (by omega) (by omega)];exact⟨_,rfl,rfl⟩)
 have az:=mK b5
 have a0:=kH az
 refine Y.skip (Y.g (Y.seq (Y.seq (Y.region (Y.mv rfl .g7 ?_)))))
 refine Y.cl rfl rfl Tryz.func90 rfl rfl (aR (.t .g6) (.t .z)) .n (fun _ _ hs tr=>aJr (tr.ptr .g1 (aK f (tr.ctx aa) (tr.ctx ab))) _) ?_
 rintro _ _ ⟨rfl,rfl⟩
 refine Y.m .n ?_
 refine Y.ql rfl (fB rfl (.t .z)) (Y.nt ?_)
 refine Y.ac (.t .z) (fun b8=> ?_) (fun b8=> ?_)
 refine Y.seq (Y.region (Y.ql rfl (bC (cs:= [.int .i64 3,.slice none 0 0]) rfl pP (pv1 .c) rfl) ?_))
 refine Y.es (aE rfl) rfl (esW rfl (.t .g8) (.t .z) .z iL rfl rfl) ?_
 refine Y.nt (Y.ret (Y.j ?_))
 refine Y.add (c:=aG bQ [] [.slice none 0 0]) (fun w S=>aL w S none) ?_
 refine Y.i (dF rfl .g8 nZ .g1 iL) (.c .z .n) ?_
 first |(rw [dL (by assumption)];exact⟨_,rfl,rfl⟩) |(rw [fZ (by assumption)];exact⟨_,rfl,rfl⟩) |(rw [fZ (gM (by assumption) (by assumption) (by omega) (by omega))];exact⟨_,rfl,rfl⟩) |(rw [dL (by rw [eL (by assumption)];first | assumption | decide),eL (by assumption)];exact⟨_,rfl,rfl⟩) |(rw [dL (by rw [eK (by assumption) (by assumption)];first | assumption | decide),eK (by assumption) (by assumption)];exact⟨_,rfl,rfl⟩) |(rw [dL (by rw [eJ (by assumption) (by assumption) (by omega)];first | assumption | decide),eJ (by assumption) (by assumption) (by omega)];exact⟨_,rfl,rfl⟩) |(rw [dL (by rw [eI (by assumption) (by assumption) (by omega) (by omega)];first | assumption | decide),eI (by assumption) (by assumption) (by omega) (by omega)];exact⟨_,rfl,rfl⟩)
 refine Y.skip (Y.g (Y.seq (Y.seq (Y.region (Y.fa rfl .g8 aO (Y.ld rfl bT .z .g1 (Y.mv rfl .g12 ?_)))))))
 obtain⟨bp,ad,ae⟩:=aj (by omega)
 subst ad
 obtain⟨bu,ac⟩:=aI (xs:=f.inodes) (j:=Int.toNat a) (by omega)
 obtain⟨bh,am,an,ao⟩:=ae.elem ac
 obtain⟨a1,a2,rfl,af,ag⟩:=cM am
 obtain⟨a3,a4,rfl,ap,aq,ar,au⟩:=aD af
 obtain⟨a5,a6,rfl,av,aw,ax,ay⟩:=aD ag
 have bq:=dC (i:=a) ac (by omega)
 have br:=dE (a:=a) ac (by omega)
 have bi:=dK a0 _ (List.mem_of_getElem? ac)
 refine Y.ql rfl (aB (j:=Int.toNat a) rfl cQ aV (.t .g1) (.t .z) (by omega) (by omega)) ?_
 refine Y.fa rfl .z cA (Y.le rfl cB .z an ao (Y.nt (Y.block (Y.seq (Y.region (Y.ql rfl (bU rfl (.t .z) .c) (Y.as rfl .z ?_)))))))
 refine Y.nt ?_
 refine Y.u (.t .z) (fun bs=> ?_) (fun bs=> ?_)
 refine Y.seq (Y.region (Y.ql rfl (bC (cs:= [.int .i64 9,.slice none 0 0]) rfl pP (pv1 .c) rfl) ?_))
 refine Y.es (aE rfl) rfl (esW rfl (.t .g16) (.t .z) .z iL rfl rfl) ?_
 refine Y.nt (Y.ret (Y.v (Y.j ?_)))
 refine Y.add (c:=aG bQ [] [.slice none 0 0]) (fun w S=>aL w S none) ?_
 refine Y.i (dF rfl .g16 nZ .g1 iL) (.c .z .n) ?_
 first |(rw [dL (by assumption)];exact⟨_,rfl,rfl⟩) |(rw [fZ (by assumption)];exact⟨_,rfl,rfl⟩) |(rw [fZ (gM (by assumption) (by assumption) (by omega) (by omega))];exact⟨_,rfl,rfl⟩) |(rw [dL (by rw [eL (by assumption)];first | assumption | decide),eL (by assumption)];exact⟨_,rfl,rfl⟩) |(rw [dL (by rw [eK (by assumption) (by assumption)];first | assumption | decide),eK (by assumption) (by assumption)];exact⟨_,rfl,rfl⟩) |(rw [dL (by rw [eJ (by assumption) (by assumption) (by omega)];first | assumption | decide),eJ (by assumption) (by assumption) (by omega)];exact⟨_,rfl,rfl⟩) |(rw [dL (by rw [eI (by assumption) (by assumption) (by omega) (by omega)];first | assumption | decide),eI (by assumption) (by assumption) (by omega) (by omega)];exact⟨_,rfl,rfl⟩)
 refine Y.seq (Y.region (Y.ql rfl (bU rfl (.t .g2) .c) (Y.as rfl .z (Y.nt ?_))))
 refine Y.u (.t .z) (fun bt=> ?_) (fun bt=> ?_)
 refine Y.seq (Y.region (Y.ql rfl (bC (cs:= [.int .i64 4,.slice none 0 0]) rfl pP (pv1 .c) rfl) ?_))
 refine Y.es (aE rfl) rfl (esW rfl (.t (.s16 .g2)) (.t .z) .z iL rfl rfl) ?_
 refine Y.nt (Y.ret (Y.v (Y.j ?_)))
 refine Y.add (c:=aG bQ [] [.slice none 0 0]) (fun w S=>aL w S none) ?_
 refine Y.i (dF rfl (.s16 .g2) nZ .g1 iL) (.c .z .n) ?_
 first |(rw [dL (by assumption)];exact⟨_,rfl,rfl⟩) |(rw [fZ (by assumption)];exact⟨_,rfl,rfl⟩) |(rw [fZ (gM (by assumption) (by assumption) (by omega) (by omega))];exact⟨_,rfl,rfl⟩) |(rw [dL (by rw [eL (by assumption)];first | assumption | decide),eL (by assumption)];exact⟨_,rfl,rfl⟩) |(rw [dL (by rw [eK (by assumption) (by assumption)];first | assumption | decide),eK (by assumption) (by assumption)];exact⟨_,rfl,rfl⟩) |(rw [dL (by rw [eJ (by assumption) (by assumption) (by omega)];first | assumption | decide),eJ (by assumption) (by assumption) (by omega)];exact⟨_,rfl,rfl⟩) |(rw [dL (by rw [eI (by assumption) (by assumption) (by omega) (by omega)];first | assumption | decide),eI (by assumption) (by assumption) (by omega) (by omega)];exact⟨_,rfl,rfl⟩)
 refine Y.skip (Y.w (Y.g (Y.seq (Y.region (Y.mv rfl (.s16 .g4) ?_)))))
 refine Y.cl rfl rfl Tryz.func68 rfl rfl (aR (.t (.s16 .g3)) (.t .z)) .n (fun _ _ hs tr=>aJd (tr.ptr .g1 (aK f (tr.ctx aa) (tr.ctx ab))) _ (by assumption) (by first | assumption |(constructor <;> omega))) ?_
 rintro _ _ rfl
 refine Y.m (.c .n) ?_
 refine Y.h (WS.a .z) ?_
 rintro⟨a7,a8,rfl,bj,bk,bm⟩
 refine Y.ql rfl (bC (cs:= [.int .i64 0,.slice a7 (bB f a).length a8]) rfl pP (pv1 (.t .z)) rfl) ?_
 refine Y.es (aE rfl) rfl (esW rfl (.t (.s16 .g4)) (.t .z) .g1 iL rfl rfl) ?_
 refine Y.nt (Y.ret ?_)
 refine Y.i (dF rfl (.s16 .g4) nZ .z iL) (.c .g1 .n) ?_
 first |(rw [dL (by assumption)];exact⟨_,rfl,rfl⟩) |(rw [fZ (by assumption)];exact⟨_,rfl,rfl⟩) |(rw [fZ (gM (by assumption) (by assumption) (by omega) (by omega))];exact⟨_,rfl,rfl⟩) |(rw [dL (by rw [eL (by assumption)];first | assumption | decide),eL (by assumption)];exact⟨_,rfl,rfl⟩) |(rw [dL (by rw [eK (by assumption) (by assumption)];first | assumption | decide),eK (by assumption) (by assumption)];exact⟨_,rfl,rfl⟩) |(rw [dL (by rw [eJ (by assumption) (by assumption) (by omega)];first | assumption | decide),eJ (by assumption) (by assumption) (by omega)];exact⟨_,rfl,rfl⟩) |(rw [dL (by rw [eI (by assumption) (by assumption) (by omega) (by omega)];first | assumption | decide),eI (by assumption) (by assumption) (by omega) (by omega)];exact⟨_,rfl,rfl⟩)

theorem aMq {w0:World}{S0:Bs}{f:DFs}{ab:Addr} (h0:gK fD w0 (FF w0 S0) ab f) (a:Int) (i:Int) (n:Int) (ht:bL f=0) (hp:bZ f.inodes.length a):
    Calls Tryz.prog 44 #[.pointer (some ab),.int .i64 a,.int .i64 i,.int .i64 n] w0 (aJ w0 S0 (fun r l=>∃v,r= .tuple #[v,.int .i64 (yT i n)]∧l= [aG bQ (yZ f a i n) [v]])):=by
 obtain⟨a9,ba,aq,bb⟩:=id h0
 obtain⟨ar,au,rfl,ac,ad⟩:=cV aq
 obtain⟨av,aw,rfl,ae,af,ag,ah⟩:=aD ac
 obtain⟨ax,ay,rfl,ai,aj,ak,al⟩:=aD ad
 have hI:=kH ht
 have hfl:=mJ ht a
 refine Y.enter (N:=36) Tryz.func44 rfl rfl (by simp) [(0,.pointer (some ab)),(1,.int .i64 a),(2,.int .i64 i),(3,.int .i64 n)] (by simp) (l0:= []) trivial ?_
 refine Y.seq (Y.region (Y.ql rfl (aA rfl .c) (Y.ql rfl (aA rfl .c) (Y.nt (Y.seq (Y.seq (Y.region ?_)))))))
 refine Y.mv rfl .g4 ?_
 refine Y.cl rfl rfl Tryz.func84 rfl rfl (eS (.t .z) .c .c) .n (fun _ _ hs tr=>uG _ _ _) ?_
 rintro _ _ ⟨rfl,rfl⟩
 refine Y.m .n ?_
 refine Y.ql rfl (fB rfl (.t .z)) (Y.mv rfl .z ?_)
 refine Y.ao .z (fun g3=> ?_) (fun g3=> ?_)
 refine Y.r rfl rfl .z rfl rfl (by decide) rfl ?_
 refine Y.r rfl rfl .g1 rfl rfl (by decide) rfl ?_
 refine Y.r rfl rfl .g2 rfl rfl (by decide) rfl ?_
 refine Y.ql rfl (aZ rfl (.t .g3) .c) (Y.nt ?_)
 refine Y.ap (.t .z) ?_
 refine Y.seq (Y.region (Y.er .g9 (Y.ql rfl (aA rfl .c) (Y.er .g9 (Y.ql rfl (aA rfl .c) (Y.nt (Y.ret ?_)))))))
 refine Y.j ?_
 refine Y.add (c:=aG bQ [] [.slice none 0 0]) (fun w S=>aL w S none) ?_
 refine Y.i (nL rfl .g1 .z) (.c .z .n) ?_
 first |(rw [vT (by omega),vV (by omega)];exact⟨_,rfl,rfl⟩) |(rw [vG (by omega),vN (by omega)];exact⟨_,rfl,rfl⟩)
 refine Y.qg rfl rfl .z rfl rfl rfl (aN rfl (.t .g9)) ?_
 refine Y.call (eR rfl rfl .g1) rfl (by decide) rfl (bG rfl Tryz.func84 rfl rfl (eS (.t .z) .c .c)) .n (fun _ _ hs tr=>uG _ _ _) ?_
 rintro _ _ ⟨rfl,rfl⟩
 refine Y.m .n ?_
 refine Y.qg rfl rfl .g2 rfl rfl rfl (fB rfl (.t .z)) ?_
 refine Y.ql rfl (bJ rfl (.t .g3) (.t .z)) (Y.nt ?_)
 refine Y.ac (.t .z) (fun b5=> ?_) (fun b5=> ?_)
 refine Y.seq (Y.region (Y.er .g9 (Y.ql rfl (aA rfl .c) (Y.er .g9 (Y.ql rfl (aA rfl .c) (Y.nt (Y.ret ?_)))))))
 refine Y.j ?_
 refine Y.add (c:=aG bQ [] [.slice none 0 0]) (fun w S=>aL w S none) ?_
 refine Y.i (nL rfl .g1 .z) (.c .z .n) ?_
 first |(rw [vT (by omega),vV (by omega)];exact⟨_,rfl,rfl⟩) |(rw [vG (by omega),vN (by omega)];exact⟨_,rfl,rfl⟩)
 refine Y.skip (Y.g (Y.seq (Y.region (Y.mv rfl .g10 (Y.mv rfl .g12 ?_)))))
 refine Y.cl rfl rfl Tryz.func48 rfl rfl (aR (.t .g1) (.t .z)) .n (fun _ _ hs tr=>aJ8 (tr.ctxP h0) _ (by assumption) (by first | assumption |(constructor <;> omega))) ?_
 rintro _ _ rfl
 refine Y.m (.c .n) ?_
 refine Y.h (WS.a .z) ?_
 rintro⟨am,az,rfl,a0,a1,a2⟩
 refine Y.as rfl .z (Y.nt (Y.seq (Y.region (Y.mv rfl .g16 (Y.mv rfl .g1 ?_)))))
 refine Y.cl rfl rfl Tryz.func88 rfl rfl (bH (.t .z)) .n (fun _ _ hs tr=>aA2 (tr.own .z)) ?_
 rintro _ _ ⟨rfl,rfl⟩
 refine Y.m .n ?_
 have bc:=gB i ((bB f a).length:Int)
 refine Y.ql rfl (aEl rfl (.t .g2) (.t .z)) (Y.er (.s16 .g4) (Y.as rfl .z (Y.nt (Y.seq (Y.region (Y.mv rfl .g5 (Y.mv rfl .g1 ?_)))))))
 refine Y.mv rfl .g2 (Y.mv rfl (.s16 .g8) ?_)
 refine Y.ql rfl (bA (c:=(dS i ((bB f a).length:Int))+n) rfl (.t .g1) (.t .z) (wr (by omega) (by omega) (by omega))) ?_
 refine Y.mv rfl .g10 ?_
 refine Y.cl rfl rfl Tryz.func88 rfl rfl (bH (.t .z)) .n (fun _ _ hs tr=>aA2 (tr.own .z)) ?_
 rintro _ _ ⟨rfl,rfl⟩
 refine Y.m .n ?_
 have a3:=gB ((dS i ((bB f a).length:Int))+n) ((bB f a).length:Int)
 refine Y.ql rfl (aEl rfl (.t .g2) (.t .z)) ?_
 refine Y.eq .g6 (congrArg (Value.int .i64) (show dS i ((bB f a).length:Int)=((Int.toNat (dS i ((bB f a).length:Int)):Nat):Int) by omega)) ?_
 refine Y.eq .g1 (congrArg (Value.int .i64) (show dS ((dS i ((bB f a).length:Int))+n) ((bB f a).length:Int)=((Int.toNat (dS ((dS i ((bB f a).length:Int))+n) ((bB f a).length:Int)):Nat):Int) by omega)) ?_
 obtain⟨a4,aa⟩:∃A':Option Addr,A'=(if az=Int.toNat (dS i ((bB f a).length:Int))then am else Option.map (fun z=>Addr.add z ((Int.toNat (dS i ((bB f a).length:Int))) * 1)) am):=⟨_,rfl⟩
 have a5:=fW (xs:=bB f a) (a:=Int.toNat (dS i ((bB f a).length:Int))) (b:=Int.toNat (dS ((dS i ((bB f a).length:Int))+n) ((bB f a).length:Int))) (by omega)
 have a6:True:=trivial
 refine Y.ql rfl (iZ (a:=Int.toNat (dS i ((bB f a).length:Int))) (b:=Int.toNat (dS ((dS i ((bB f a).length:Int))+n) ((bB f a).length:Int))) rfl dP nJ (.t .g7) aa (.inr ⟨_,_,rfl,(.t .g1)⟩) (.inr ⟨_,_,rfl,(.t .z)⟩) (by omega) (by omega) (by omega)) ?_
 refine Y.cl rfl rfl Tryz.func89 rfl rfl (bH (.t .z)) .n (fun _ _ hs tr=>aIc (mQ (a:=Int.toNat (dS i ((bB f a).length:Int))) (b:=Int.toNat (dS ((dS i ((bB f a).length:Int))+n) ((bB f a).length:Int))) aa (tr.own .z) (by omega) (by omega))) ?_
 rintro _ _ rfl
 refine Y.m (.c .n) ?_
 refine Y.h (WS.a .z) ?_
 rintro⟨a7,a8,rfl,an,ao,ap⟩
 refine Y.er (.s16 .g12) (Y.as rfl .z (Y.er (.s16 .g12) (Y.ql rfl (aA rfl .c) (Y.nt (Y.ret ?_)))))
 refine Y.ah (x':=oU (bB f a) i n) .z (by unfold oU;first | rfl | rw [rN (dS i _+n)]) ?_
 refine Y.i (nL rfl .g1 .z) (.c .z .n) ?_
 first |(rw [vT (by omega),vV (by omega)];exact⟨_,rfl,rfl⟩) |(rw [vG (by omega),vN (by omega)];exact⟨_,rfl,rfl⟩)

theorem aLg {w0:World}{S0:Bs}{f:DFs}{al:List Value} (h0:fD.ro w0 (FF w0 S0) f al) (a:Int) (i:Int) (n:Int):
    Calls Tryz.prog 10 #[.agg al.toArray,.int .i64 a,.int .i64 i,.int .i64 n] w0 (aJ w0 S0 (aEj (iR f a i n))):=by
 obtain⟨az,a0,rfl,aa,ab⟩:=cV h0
 obtain⟨ac,ad,rfl,am,an,ao,ap⟩:=aD aa
 obtain⟨ae,af,rfl,aq,ar,au,av⟩:=aD ab
 refine Y.enter (N:=29) Tryz.func10 rfl rfl (by simp) [(0,.agg #[.slice ac f.inodes.length ad,.slice ae f.data.length af]),(1,.int .i64 a),(2,.int .i64 i),(3,.int .i64 n)] (by simp) (l0:= []) trivial ?_
 refine Y.seq (Y.region ?_)
 refine Y.el rfl (gL (cs:= [.slice ac f.inodes.length ad,.slice ae f.data.length af]) (n:=2) rfl (.t .z) rfl rfl) ?_
 rintro _ _ ⟨g3,rfl,rfl⟩
 refine Y.el rfl (bP rfl aFh rfl rfl) ?_
 rintro _ _ ⟨g4,rfl,rfl⟩
 refine Y.nt (Y.seq (Y.seq (Y.region (Y.ql rfl (qW rfl bR (.t .g1) .g1 aX) (Y.mv rfl .g4 ?_)))))
 refine Y.cl rfl rfl Tryz.func43 rfl rfl (aR (.t .g1) (.t .z)) .n (fun _ _ hs tr=>aJa (aK f (tr.ctx aa) (tr.ctx ab)) _) ?_
 rintro _ _ ⟨rfl,rfl⟩
 refine Y.m .n ?_
 refine Y.as rfl .z (Y.nt (Y.seq (Y.region (Y.mv rfl .z (Y.ql rfl (bY rfl (.t .z) .c) (Y.nt ?_))))))
 refine Y.ac (.t .z) (fun b5=> ?_) (fun b5=> ?_)
 refine Y.seq (Y.region (Y.mv rfl .g2 ?_))
 refine Y.ql rfl (bC (cs:= [.int .i64 (bX f a),.slice none 0 0]) rfl pP (pv1 (.t .z)) rfl) ?_
 refine Y.es (aE rfl) rfl (esW rfl (.t .g8) (.t .z) .z iL rfl rfl) ?_
 refine Y.nt (Y.ret (Y.j ?_))
 refine Y.add (c:=aG bQ [] [.slice none 0 0]) (fun w S=>aL w S none) ?_
 refine Y.i (dF rfl .g8 nZ .g1 iL) (.c .z .n) ?_
 first |(rw [zN (by assumption)];exact⟨_,rfl,rfl⟩) |(rw [oV (by assumption) (by omega)];exact⟨_,rfl,rfl⟩) |(rw [mY (by assumption) (by omega)];exact⟨_,rfl,rfl⟩) |(rw [aFp (by assumption)];exact⟨_,rfl,rfl⟩)
 obtain⟨aj,⟨a1,a2⟩,a3,a4⟩:=oY b5
 have ag:=mK aj
 have ak:=kH ag
 have a5:=kU ag
 have a6:=lP ak a
 refine Y.skip (Y.g (Y.seq (Y.region (Y.mv rfl .g9 (Y.mv rfl .g11 (Y.mv rfl .g13 ?_))))))
 refine Y.cl rfl rfl Tryz.func44 rfl rfl (pK (.t .g10) (.t .g2) (.t .g1) (.t .z)) .n (fun _ _ hs tr=>aMq (tr.ptr .g1 (aK f (tr.ctx aa) (tr.ctx ab))) _ _ _ (by assumption) (by first | assumption |(constructor <;> omega))) ?_
 rintro _ _ ⟨v8,rfl,rfl⟩
 refine Y.m (.c .n) ?_
 refine Y.h (WS.a .z) ?_
 rintro⟨ah,ai,rfl,aw,ax,ay⟩
 refine Y.mv rfl .z (Y.ql rfl (bK (v:= .slice ah (yZ f a i n).length ai) rfl (.t .z) rfl) (Y.ql rfl (bK (v:= .int .i64 (yT i n)) rfl (.t .g1) rfl) (Y.as rfl .g1 (Y.as rfl .g1 (Y.nt (Y.seq (Y.region ?_)))))))
 refine Y.mv rfl .z (Y.mv rfl .g2 (Y.ql rfl (bC (cs:= [.int .i64 (yT i n),.slice ah (yZ f a i n).length ai]) rfl pP (pv2 (.t .g1) (.t .z)) rfl) ?_))
 refine Y.es (aE rfl) rfl (esW rfl (.t (.s16 .g2)) (.t .z) .g1 iL rfl rfl) ?_
 refine Y.nt (Y.ret ?_)
 refine Y.i (dF rfl (.s16 .g2) nZ .z iL) (.c .g1 .n) ?_
 first |(rw [zN (by assumption)];exact⟨_,rfl,rfl⟩) |(rw [oV (by assumption) (by omega)];exact⟨_,rfl,rfl⟩) |(rw [mY (by assumption) (by omega)];exact⟨_,rfl,rfl⟩) |(rw [aFp (by assumption)];exact⟨_,rfl,rfl⟩)

theorem aMi {w0:World}{S0:Bs}{f:DFs}{ap:List Value} (h0:fD.ro w0 (FF w0 S0) f ap) (a:Int) (i:Int) (n:Int):
    Calls Tryz.prog 11 #[.agg ap.toArray,.int .i64 a,.int .i64 i,.int .i64 n] w0 (aJ w0 S0 (aEj (iR f a i n))):=by
 obtain⟨a6,a7,rfl,ae,af⟩:=cV h0
 obtain⟨ag,ah,rfl,aq,ar,au,av⟩:=aD ae
 obtain⟨ai,aj,rfl,aw,ax,ay,az⟩:=aD af
 refine Y.enter (N:=46) Tryz.func11 rfl rfl (by simp) [(0,.agg #[.slice ag f.inodes.length ah,.slice ai f.data.length aj]),(1,.int .i64 a),(2,.int .i64 i),(3,.int .i64 n)] (by simp) (l0:= []) trivial ?_
 refine Y.seq (Y.region ?_)
 refine Y.el rfl (gL (cs:= [.slice ag f.inodes.length ah,.slice ai f.data.length aj]) (n:=2) rfl (.t .z) rfl rfl) ?_
 rintro _ _ ⟨g3,rfl,rfl⟩
 refine Y.el rfl (bP rfl aFh rfl rfl) ?_
 rintro _ _ ⟨g4,rfl,rfl⟩
 refine Y.nt (Y.seq (Y.region (Y.ql rfl (qW rfl bR (.t .g1) .g1 aX) (Y.mv rfl .g4 ?_))))
 refine Y.cl rfl rfl Tryz.func45 rfl rfl (aR (.t .g1) (.t .z)) .n (fun _ _ hs tr=>aKp (aK f (tr.ctx ae) (tr.ctx af)) _) ?_
 rintro _ _ ⟨v5,rfl,rfl⟩
 refine Y.m (.c .n) ?_
 refine Y.h (WS.a .z) ?_
 rintro⟨ac,ak,rfl,a8,a9,ba⟩
 refine Y.el rfl (bP rfl aFh rfl rfl) ?_
 rintro _ _ ⟨g8,rfl,rfl⟩
 refine Y.es (aE rfl) rfl (esW rfl (.t .z) (.t .g1) .z iL rfl rfl) ?_
 refine Y.nt (Y.seq (Y.seq (Y.region (Y.fa rfl .z zI (Y.ld rfl cB .z .z (Y.ql rfl (bY rfl (.t .z) .c) (Y.nil ?_)))))))
 refine Y.g ?_
 refine Y.ac (.t .z) (fun b9=> ?_) (fun b9=> ?_)
 have hbc:=zB b9
 refine Y.seq (Y.region (Y.ql rfl (qW rfl nZ (.t .g3) .z iL) ?_))
 refine Y.es (aE rfl) rfl (esW rfl (.t .g8) (.t .z) .g2 iL rfl rfl) ?_
 refine Y.nt (Y.ret (Y.j ?_))
 refine Y.i (dF rfl .g8 nZ .z iL) (.c .g2 .n) ?_
 first |(rw [tP (by assumption)];exact⟨_,rfl,rfl⟩) |(rw [oV (by assumption) (by omega)];exact⟨_,rfl,rfl⟩) |(rw [mY (by assumption) (by omega)];exact⟨_,rfl,rfl⟩)
 have hbc:=zR b9
 have hbb:=tT hbc
 have hbbl:(bO f a).bytes.length=(bB f a).length:=by rw [hbb]
 have hfl:=mJ (mK (oY hbc).1) a
 have ad:(bO f a).bytes=bB f a:=hbb
 refine Y.eq .g4 (congrArg (fun z_:List UInt8=>(.agg #[.int .i64 ((bO f a).code),.slice ac (z_).length ak]:Value)) ad) ?_
 refine Y.al .z (congrArg (fun z_:List UInt8=>(bW g8 31 2 1 [.int .i64 ((bO f a).code),.slice ac (z_).length ak]:Asn)) ad) ?_
 refine Y.al .g1 (congrArg (fun z_:List UInt8=>(aG bQ (z_) [.slice ac (z_).length ak]:Asn)) ad) ?_
 refine Y.skip (Y.g (Y.seq (Y.seq (Y.region (Y.mv rfl .g11 ?_)))))
 refine Y.cl rfl rfl Tryz.func46 rfl rfl (eS (.t .z) .c .c) .n (fun _ _ hs tr=>wP _ _ _) ?_
 rintro _ _ ⟨rfl,rfl⟩
 refine Y.m .n ?_
 refine Y.ql rfl (fB rfl (.t .z)) (Y.mv rfl .z ?_)
 refine Y.ao .z (fun g11=> ?_) (fun g11=> ?_)
 refine Y.r rfl rfl .z rfl rfl (by decide) rfl ?_
 refine Y.r rfl rfl .g1 rfl rfl (by decide) rfl ?_
 refine Y.r rfl rfl .g2 rfl rfl (by decide) rfl ?_
 refine Y.ql rfl (aZ rfl (.t .g3) .c) (Y.nt ?_)
 refine Y.ap (.t .z) ?_
 refine Y.seq (Y.region (Y.ql rfl (bC (cs:= [.int .i64 3,.slice none 0 0]) rfl pP (pv1 .c) rfl) ?_))
 refine Y.es (aE rfl) rfl (esW rfl (.t .g16) (.t .z) .g2 iL rfl rfl) ?_
 refine Y.nt (Y.ret (Y.j ?_))
 refine Y.add (c:=aG bQ [] [.slice none 0 0]) (fun w S=>aL w S none) ?_
 refine Y.i (dF rfl .g16 nZ .g1 iL) (.c .z .n) ?_
 first |(rw [tP (by assumption)];exact⟨_,rfl,rfl⟩) |(rw [oV (by assumption) (by omega)];exact⟨_,rfl,rfl⟩) |(rw [mY (by assumption) (by omega)];exact⟨_,rfl,rfl⟩)
 refine Y.qg rfl rfl .z rfl rfl rfl (aN rfl (.t .g16)) ?_
 refine Y.call (eR rfl rfl .g1) rfl (by decide) rfl (bG rfl Tryz.func46 rfl rfl (eS (.t .z) .c .c)) .n (fun _ _ hs tr=>wP _ _ _) ?_
 rintro _ _ ⟨rfl,rfl⟩
 refine Y.m .n ?_
 refine Y.qg rfl rfl .g2 rfl rfl rfl (fB rfl (.t .z)) ?_
 refine Y.ql rfl (bJ rfl (.t .g3) (.t .z)) (Y.nt ?_)
 refine Y.ac (.t .z) (fun bb=> ?_) (fun bb=> ?_)
 refine Y.seq (Y.region (Y.ql rfl (bC (cs:= [.int .i64 3,.slice none 0 0]) rfl pP (pv1 .c) rfl) ?_))
 refine Y.es (aE rfl) rfl (esW rfl (.t .g16) (.t .z) .g2 iL rfl rfl) ?_
 refine Y.nt (Y.ret (Y.j ?_))
 refine Y.add (c:=aG bQ [] [.slice none 0 0]) (fun w S=>aL w S none) ?_
 refine Y.i (dF rfl .g16 nZ .g1 iL) (.c .z .n) ?_
 first |(rw [tP (by assumption)];exact⟨_,rfl,rfl⟩) |(rw [oV (by assumption) (by omega)];exact⟨_,rfl,rfl⟩) |(rw [mY (by assumption) (by omega)];exact⟨_,rfl,rfl⟩)
 refine Y.skip (Y.g (Y.seq (Y.region (Y.fa rfl .g12 vM (Y.ld rfl nN .z .g1 (Y.ql rfl (bE rfl dP (.t .z)) (Y.as rfl .z (Y.nil ?_))))))))
 refine Y.g (Y.seq (Y.region (Y.mv rfl (.s16 .g7) (Y.mv rfl .g1 ?_))))
 refine Y.cl rfl rfl Tryz.func47 rfl rfl (aR (.t .g1) (.t .z)) .n (fun _ _ hs tr=>aGe _ _) ?_
 rintro _ _ ⟨rfl,rfl⟩
 refine Y.m .n ?_
 have bc:=gB i ((bB f a).length:Int)
 refine Y.as rfl .z (Y.nt (Y.seq ?_))
 refine Y.dr .g1 12 gE ?_
 refine Y.sc (qs 1 7) (by kernel_rfl) ?_
 refine Y.df rfl rfl .g1 (.s16 .g4) vM (Y.dl rfl rfl .g1 nN .z .z (Y.dm rfl rfl .g1 .g2 (Y.dm rfl rfl .g1 .g7 (Y.dm rfl rfl .g1 .g4 (Y.dm rfl rfl .g1 (.s16 (.s16 .g1)) ?_)))))
 refine Y.dk rfl rfl .g1 (bA (c:=(dS i ((bB f a).length:Int))+n) rfl (.t .g1) (.t .z) (wr (by omega) (by omega) (by omega))) ?_
 refine Y.aa ?_
 refine Y.ar (i:=0) (j:=8) (by kernel_rfl) ?_ ?_
 refine Y.e (aC rfl rfl) rfl (by decide) rfl (dZ rfl dP (inz iQ)) ?_
 rintro _ _ ⟨g16,rfl,rfl⟩
 refine Y.sk .g2 ?_
 refine Y.aa ?_
 refine Y.sc [(8,false),(9,true),(10,false),(11,true),(12,false)] (by kernel_rfl) ?_
 refine Y.call (aC rfl rfl) rfl (by decide) rfl (bG rfl Tryz.func47 rfl rfl (aR (.t .g4) (.t .g1))) .n (fun _ _ hs tr=>aGe _ _) ?_
 rintro _ _ ⟨rfl,rfl⟩
 refine Y.m .n ?_
 have bd:=gB ((bB f a).length:Int) ((dS i ((bB f a).length:Int))+n)
 refine Y.sk .g2 ?_
 refine Y.eq .g6 (congrArg (Value.int .i64) (show dS i ((bB f a).length:Int)=((Int.toNat (dS i ((bB f a).length:Int)):Nat):Int) by omega)) ?_
 refine Y.eq .g1 (congrArg (Value.int .i64) (show dS ((bB f a).length:Int) ((dS i ((bB f a).length:Int))+n)=((Int.toNat (dS ((bB f a).length:Int) ((dS i ((bB f a).length:Int))+n)):Nat):Int) by omega)) ?_
 obtain⟨be,aa⟩:∃A':Option Addr,A'=(if ak=Int.toNat (dS i ((bB f a).length:Int))then ac else Option.map (fun z=>Addr.add z ((Int.toNat (dS i ((bB f a).length:Int))) * 1)) ac):=⟨_,rfl⟩
 have bf:=fW (xs:=bB f a) (a:=Int.toNat (dS i ((bB f a).length:Int))) (b:=Int.toNat (dS ((bB f a).length:Int) ((dS i ((bB f a).length:Int))+n))) (by omega)
 have bg:True:=trivial
 refine Y.dk rfl rfl .g2 (iZ (a:=Int.toNat (dS i ((bB f a).length:Int))) (b:=Int.toNat (dS ((bB f a).length:Int) ((dS i ((bB f a).length:Int))+n))) rfl dP nJ (.t .g7) aa (.inr ⟨_,_,rfl,(.t .g1)⟩) (.inr ⟨_,_,rfl,(.t .z)⟩) (by omega) (by omega) (by omega)) ?_
 refine Y.add (c:=aG bQ ([]:(List UInt8)) [.slice (some ⟨g16,0,none⟩) 0 0]) (fun w S=>aL w S _) ?_
 refine Y.e (aC rfl rfl) rfl (by decide) rfl (dY (bI _ _ _) rfl dP iQ rfl (.t .g3) (.t .z) (.c .z .n) (fun w1 S1 tr=>(mQ (a:=Int.toNat (dS i ((bB f a).length:Int))) (b:=Int.toNat (dS ((bB f a).length:Int) ((dS i ((bB f a).length:Int))+n))) aa (tr.own .g1) (by omega) (by omega))) (by first | omega |(simp only [List.length_append,List.length_take,List.length_nil,List.length_cons];omega)) (by first | omega |(simp only [List.length_append,List.length_take,List.length_nil,List.length_cons];omega))) ?_
 rintro _ _ rfl
 refine Y.ah .z (List.nil_append _) ?_
 refine Y.h (WS.a .z) ?_
 rintro⟨al,am,rfl,a0,a1,a2⟩
 refine Y.sk .g3 ?_
 refine Y.dk rfl rfl .g3 (bC (cs:= [.int .i64 0,.slice al (iP (bB f a) (Int.toNat (dS i ((bB f a).length:Int))) (Int.toNat (dS ((bB f a).length:Int) ((dS i ((bB f a).length:Int))+n)))).length am]) rfl pP (pv1 (.t .z)) rfl) ?_
 refine Y.es (aC rfl rfl) rfl (esW rfl (.t (.s16 (.s16 .g3))) (.t .z) .g4 iL rfl rfl) ?_
 refine Y.sl rfl ?_
 refine Y.aa ?_
 refine Y.ai (by kernel_rfl) ?_
 refine Y.g (Y.ret ?_)
 refine Y.ah (x':=oU (bB f a) i n) .g1 (by unfold oU;first | rfl | rw [rN (dS i _+n)]) ?_
 refine Y.i (dF rfl (.s16 (.s16 .g3)) nZ .g1 iL) (.c .z .n) ?_
 first |(rw [tP (by assumption)];exact⟨_,rfl,rfl⟩) |(rw [oV (by assumption) (by omega)];exact⟨_,rfl,rfl⟩) |(rw [mY (by assumption) (by omega)];exact⟨_,rfl,rfl⟩)
 refine Y.call (aC rfl rfl) rfl (by decide) rfl (bG rfl Tryz.func47 rfl rfl (aR (.t .g3) (.t .z))) .n (fun _ _ hs tr=>aGe _ _) ?_
 rintro _ _ ⟨rfl,rfl⟩
 refine Y.m .n ?_
 have bh:=gB ((bB f a).length:Int) ((dS i ((bB f a).length:Int))+n)
 refine Y.sk .g1 ?_
 refine Y.aa ?_
 refine Y.sc [(9,true),(0,false),(10,false),(11,true),(12,false)] (by kernel_rfl) ?_
 refine Y.eq .g5 (congrArg (Value.int .i64) (show dS i ((bB f a).length:Int)=((Int.toNat (dS i ((bB f a).length:Int)):Nat):Int) by omega)) ?_
 refine Y.eq .g1 (congrArg (Value.int .i64) (show dS ((bB f a).length:Int) ((dS i ((bB f a).length:Int))+n)=((Int.toNat (dS ((bB f a).length:Int) ((dS i ((bB f a).length:Int))+n)):Nat):Int) by omega)) ?_
 obtain⟨bi,ab⟩:∃A':Option Addr,A'=(if ak=Int.toNat (dS i ((bB f a).length:Int))then ac else Option.map (fun z=>Addr.add z ((Int.toNat (dS i ((bB f a).length:Int))) * 1)) ac):=⟨_,rfl⟩
 have bj:=fW (xs:=bB f a) (a:=Int.toNat (dS i ((bB f a).length:Int))) (b:=Int.toNat (dS ((bB f a).length:Int) ((dS i ((bB f a).length:Int))+n))) (by omega)
 have bk:True:=trivial
 refine Y.dk rfl rfl .g1 (iZ (a:=Int.toNat (dS i ((bB f a).length:Int))) (b:=Int.toNat (dS ((bB f a).length:Int) ((dS i ((bB f a).length:Int))+n))) rfl dP nJ (.t .g6) ab (.inr ⟨_,_,rfl,(.t .g1)⟩) (.inr ⟨_,_,rfl,(.t .z)⟩) (by omega) (by omega) (by omega)) ?_
 refine Y.e (aC rfl rfl) rfl (by decide) rfl (dZ rfl dP (inz iQ)) ?_
 rintro _ _ ⟨g25,rfl,rfl⟩
 refine Y.sk .g2 ?_
 refine Y.add (c:=aG bQ ([]:(List UInt8)) [.slice (some ⟨g25,0,none⟩) 0 0]) (fun w S=>aL w S _) ?_
 refine Y.e (aC rfl rfl) rfl (by decide) rfl (dY (bI _ _ _) rfl dP iQ rfl (.t .z) (.t .g1) (.c .z .n) (fun w1 S1 tr=>(mQ (a:=Int.toNat (dS i ((bB f a).length:Int))) (b:=Int.toNat (dS ((bB f a).length:Int) ((dS i ((bB f a).length:Int))+n))) ab (tr.own .g1) (by omega) (by omega))) (by first | omega |(simp only [List.length_append,List.length_take,List.length_nil,List.length_cons];omega)) (by first | omega |(simp only [List.length_append,List.length_take,List.length_nil,List.length_cons];omega))) ?_
 rintro _ _ rfl
 refine Y.ah .z (List.nil_append _) ?_
 refine Y.h (WS.a .z) ?_
 rintro⟨an,ao,rfl,a3,a4,a5⟩
 refine Y.sk .g3 ?_
 refine Y.dk rfl rfl .g3 (bC (cs:= [.int .i64 0,.slice an (iP (bB f a) (Int.toNat (dS i ((bB f a).length:Int))) (Int.toNat (dS ((bB f a).length:Int) ((dS i ((bB f a).length:Int))+n)))).length ao]) rfl pP (pv1 (.t .z)) rfl) ?_
 refine Y.es (aC rfl rfl) rfl (esW rfl (.t (.s16 (.s16 .g3))) (.t .z) .g4 iL rfl rfl) ?_
 refine Y.sl rfl ?_
 refine Y.aa ?_
 refine Y.ai (by kernel_rfl) ?_
 refine Y.g (Y.ret ?_)
 refine Y.ah (x':=oU (bB f a) i n) .g1 (by unfold oU;first | rfl | rw [rN (dS i _+n)]) ?_
 refine Y.i (dF rfl (.s16 (.s16 .g3)) nZ .g1 iL) (.c .z .n) ?_
 first |(rw [tP (by assumption)];exact⟨_,rfl,rfl⟩) |(rw [oV (by assumption) (by omega)];exact⟨_,rfl,rfl⟩) |(rw [mY (by assumption) (by omega)];exact⟨_,rfl,rfl⟩)

end Go.Proofs.YtmejbfmhaoilmaaGreat

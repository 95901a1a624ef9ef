/- What is proved: contracts of functions, one a function. No condition. -/
import Derived.Test.YtmejbfmhaoilmaaGreatBase1
import Derived.Test.YtmejbfmhaoilmaaGreatW40
namespace Go.Proofs.YtmejbfmhaoilmaaGreat
open Go Go.RowKit
set_option linter.unusedVariables false
set_option linter.unusedSimpArgs false
set_option maxHeartbeats 1000000
set_option maxRecDepth 20000
theorem aM1 {w0:World}{S0:Bs}{f:DFs}{ae:Addr}{ab:Value}{ac:Value} (h0:gK (mL 2 (by decide)) w0 (FF w0 S0) ae [ab,ac]) (a:Int) (i:Int) {L:(List UInt8)}{v3:Value} (h3:bQ.ro w0 (FF w0 S0) L [v3]) {b:(List Int)}{v4:Value} (h4:aY.ro w0 (FF w0 S0) b [v4]) (hs:cH [aG aW f.inodes [ab],aG dA f.data [ac]] w0 S0) (ht:bL f=0) (hp:bZ f.inodes.length a):
    Calls Tryz.prog 64 #[.pointer (some ae),.int .i64 a,.int .i64 i,v3,v4] w0 (aJ w0 S0 (fun r l=>r= .int .i64 (wrC f a i L b)∧l= [aG aW (wrQ f a i L b).inodes [ab],aG dA (wrQ f a i L b).data [ac]])):=by
 obtain⟨a0,aj,⟨rfl, -, -⟩,ak⟩:=id h0
 obtain⟨A3,c3,rfl,a1,a2,a3,a4⟩:=aD h3
 obtain⟨A4,c4,rfl,a5,a6,a7,a8⟩:=aD h4
 obtain⟨hp1a,hp2a⟩:=hp
 have hI:=kH ht
 have hd:=kU ht
 have hfl:=mJ ht a
 have hwl:= @uA f a i L
 have hzl:= @kP (bB f a) (i+(L.length:Int))
 refine Y.enter (N:=44) Tryz.func64 rfl rfl (by simp) [(0,.pointer (some ae)),(1,.int .i64 a),(2,.int .i64 i),(3,.slice A3 L.length c3),(4,.slice A4 b.length c4)] (by simp) hs ?_
 refine Y.h (WS.a .z) ?_
 rintro⟨a9,ba,rfl,al,am,an⟩
 refine Y.h (WS.a .g1) ?_
 rintro⟨bb,bc,rfl,ao,ap,aq⟩
 refine Y.seq (Y.region (Y.ql rfl (aA rfl .c) (Y.nt (Y.seq (Y.block (Y.seq (Y.region ?_)))))))
 refine Y.mv rfl .g3 ?_
 refine Y.cl rfl rfl Tryz.func84 rfl rfl (eS (.t .z) .c .c) .n (fun _ _ hs tr=>uG _ _ _) ?_
 rintro _ _ ⟨rfl,rfl⟩
 refine Y.m .n ?_
 refine Y.ql rfl (fB rfl (.t .z)) (Y.as rfl .z (Y.nt ?_))
 refine Y.ac (.t .z) (fun b5=> ?_) (fun b5=> ?_)
 refine Y.seq (Y.region (Y.er .g4 (Y.ql rfl (aA rfl .c) (Y.nt (Y.ret (Y.v (Y.j ?_)))))))
 refine Y.i (aT rfl .z) (.c .z (.c .z .n)) ?_
 first |(rw [(xU (by omega)).1,(xU (by omega)).2];exact⟨rfl,rfl⟩) |(rw [(yA (by omega) (by omega)).1,(yA (by omega) (by omega)).2];exact⟨rfl,rfl⟩) |(rw [(xT (by omega) (by omega) (by omega)).1,(xT (by omega) (by omega) (by omega)).2];exact⟨rfl,rfl⟩) |(rw [(xW (by omega) (by omega) (by omega)).1,(xW (by omega) (by omega) (by omega)).2];exact⟨rfl,rfl⟩)
 refine Y.seq (Y.region (Y.mv rfl .g7 (Y.mv rfl .g9 ?_)))
 refine Y.cl rfl rfl Tryz.func88 rfl rfl (bH (.t .z)) .n (fun _ _ hs tr=>aA2 (tr.ctx h3)) ?_
 rintro _ _ ⟨rfl,rfl⟩
 refine Y.m .n ?_
 refine Y.ql rfl (bA (c:=i+(L.length:Int)) rfl (.t .g2) (.t .z) (wr (by omega) (by omega) (by omega))) ?_
 refine Y.ql rfl (fT rfl (.t .z) .c) (Y.as rfl .z (Y.nt ?_))
 refine Y.u (.t .z) (fun b6=> ?_) (fun b6=> ?_)
 refine Y.seq (Y.region (Y.er .g10 (Y.ql rfl (aA rfl .c) (Y.nt (Y.ret (Y.v (Y.j ?_)))))))
 refine Y.i (aT rfl .z) (.c .z (.c .z .n)) ?_
 first |(rw [(xU (by omega)).1,(xU (by omega)).2];exact⟨rfl,rfl⟩) |(rw [(yA (by omega) (by omega)).1,(yA (by omega) (by omega)).2];exact⟨rfl,rfl⟩) |(rw [(xT (by omega) (by omega) (by omega)).1,(xT (by omega) (by omega) (by omega)).2];exact⟨rfl,rfl⟩) |(rw [(xW (by omega) (by omega) (by omega)).1,(xW (by omega) (by omega) (by omega)).2];exact⟨rfl,rfl⟩)
 refine Y.seq (Y.region (Y.mv rfl .g14 (Y.ql rfl (bE rfl dP (.t .z)) (Y.ql rfl (bU rfl (.t .z) .c) (Y.as rfl .z (Y.nt ?_))))))
 refine Y.u (.t .z) (fun b7=> ?_) (fun b7=> ?_)
 refine Y.seq (Y.region (Y.er .g14 (Y.ql rfl (aA rfl .c) (Y.nt (Y.ret (Y.v (Y.j ?_)))))))
 refine Y.i (aT rfl .z) (.c .z (.c .z .n)) ?_
 first |(rw [(xU (by omega)).1,(xU (by omega)).2];exact⟨rfl,rfl⟩) |(rw [(yA (by omega) (by omega)).1,(yA (by omega) (by omega)).2];exact⟨rfl,rfl⟩) |(rw [(xT (by omega) (by omega) (by omega)).1,(xT (by omega) (by omega) (by omega)).2];exact⟨rfl,rfl⟩) |(rw [(xW (by omega) (by omega) (by omega)).1,(xW (by omega) (by omega) (by omega)).2];exact⟨rfl,rfl⟩)
 refine Y.skip (Y.w (Y.g (Y.seq (Y.region (Y.mv rfl .g15 (Y.mv rfl (.s16 .g1) ?_))))))
 refine Y.cl rfl rfl Tryz.func48 rfl rfl (aR (.t .g1) (.t .z)) .n (fun _ _ hs tr=>aJ8 (tr.elw aj ak (aK f (tr.own .z) (tr.own .g1))) _ (by assumption) (by first | assumption |(constructor <;> omega))) ?_
 rintro _ _ rfl
 refine Y.m (.c .n) ?_
 refine Y.h (WS.a .z) ?_
 rintro⟨bd,be,rfl,ar,au,av⟩
 refine Y.mv rfl (.s16 .g4) (Y.mv rfl (.s16 .g6) ?_)
 refine Y.cl rfl rfl Tryz.func88 rfl rfl (bH (.t .z)) .n (fun _ _ hs tr=>aA2 (tr.ctx h3)) ?_
 rintro _ _ ⟨rfl,rfl⟩
 refine Y.m .n ?_
 refine Y.ql rfl (bA (c:=i+(L.length:Int)) rfl (.t .g2) (.t .z) (wr (by omega) (by omega) (by omega))) ?_
 refine Y.cl rfl rfl Tryz.func112 rfl rfl (aR (.t .g4) (.t .z)) (.c .z .n) (fun _ _ hs tr=>aL3 (x:=bB f a) _ hs (by omega) (by omega)) ?_
 rintro _ _ rfl
 refine Y.m (.c .n) ?_
 refine Y.h (WS.a .z) ?_
 rintro⟨ad,af,rfl,ag,ah,ai⟩
 refine Y.as rfl .z (Y.nt (Y.seq (Y.region (Y.mv rfl .z (Y.mv rfl (.s16 .g11) ?_)))))
 refine Y.eq .z (congrArg (Value.int .i64) (show i=((Int.toNat i:Nat):Int) by omega)) ?_
 obtain⟨aw,aa⟩:∃A':Option Addr,A'=(if af=Int.toNat i then ad else Option.map (fun z=>Addr.add z ((Int.toNat i) * 1)) ad):=⟨_,rfl⟩
 have ax:=fW (xs:=lA (bB f a) (i+(L.length:Int))) (a:=Int.toNat i) (b:=(lA (bB f a) (i+(L.length:Int))).length) (by omega)
 have ay:True:=trivial
 refine Y.ql rfl (iZ (a:=Int.toNat i) (b:=(lA (bB f a) (i+(L.length:Int))).length) rfl dP nJ (.t .g1) aa (.inr ⟨_,_,rfl,(.t .z)⟩) (.inl ⟨rfl,rfl⟩) (by omega) (by omega) (by omega)) ?_
 refine Y.mv rfl (.s16 .g14) ?_
 refine Y.h (WS.g .z (by rw [kP];omega)) ?_
 rintro⟨az,rfl⟩
 refine Y.el rfl (aH2 (i:=Int.toNat i) (bI _ _ _) rfl dP nJ (aIe (.t .g1)) (aa.trans (by split <;> rfl)) (.t .z) (.c .z .n) (fun w1 S1 tr=>(tr.ctx h3)) (by rw [kP];omega) (by omega)) ?_
 rintro _ _ ⟨rfl,rfl⟩
 refine Y.ah (x':=fO f a i L) .z (by unfold fO sC;rw [List.take_length]) ?_
 refine Y.nt (Y.seq (Y.region (Y.mv rfl (.s16 .g13) (Y.mv rfl (.s16 .g15) (Y.mv rfl .g7 (Y.mv rfl (.s16 (.s16 .g4)) ?_))))))
 refine Y.cl rfl rfl Tryz.func72 rfl rfl (pK (.t .g3) (.t .g2) (.t .g1) (.t .z)) (.c .g1 (.c .g1 .n)) (fun _ _ hs tr=>aM3 (f:=f) (tr.ctxP h0) _ (tr.own .z) (tr.ctx h4) hs (by assumption) (by assumption) (by first | assumption |(constructor <;> omega)) (by first | omega |(simp only [kP,List.length_take];omega))) ?_
 rintro _ _ ⟨rfl,rfl⟩
 refine Y.m (.c (.c .n)) ?_
 refine Y.ah (x':=(zY f a (fO f a i L) b).inodes) .z rfl ?_
 refine Y.ah (x':=(zY f a (fO f a i L) b).data) .g1 rfl ?_
 refine Y.er (.s16 (.s16 .g1)) (Y.as rfl .z (Y.nt (Y.ret ?_)))
 refine Y.i (aT rfl .z) (.c .g1 (.c .z .n)) ?_
 first |(rw [(xU (by omega)).1,(xU (by omega)).2];exact⟨rfl,rfl⟩) |(rw [(yA (by omega) (by omega)).1,(yA (by omega) (by omega)).2];exact⟨rfl,rfl⟩) |(rw [(xT (by omega) (by omega) (by omega)).1,(xT (by omega) (by omega) (by omega)).2];exact⟨rfl,rfl⟩) |(rw [(xW (by omega) (by omega) (by omega)).1,(xW (by omega) (by omega) (by omega)).2];exact⟨rfl,rfl⟩)

theorem aMm {w0:World}{S0:Bs}{f:DFs}{ah:List Value} (h0:fD.ro w0 (FF w0 S0) f ah) (a:Int) (i:Int) {L:(List UInt8)}{v3:Value} (h3:bQ.ro w0 (FF w0 S0) L [v3]) {b:(List Int)}{v4:Value} (h4:aY.ro w0 (FF w0 S0) b [v4]):
    Calls Tryz.prog 24 #[.agg ah.toArray,.int .i64 a,.int .i64 i,v3,v4] w0 (aJ w0 S0 (aBs (aU f a i L b))):=by
 obtain⟨a5,a6,rfl,aa,ab⟩:=cV h0
 obtain⟨ac,ad,rfl,ai,aj,ak,al⟩:=aD aa
 obtain⟨ae,af,rfl,am,an,ao,ap⟩:=aD ab
 obtain⟨A3,c3,rfl,bf,bg,bh,bi⟩:=aD h3
 obtain⟨A4,c4,rfl,bj,bk,bm,bn⟩:=aD h4
 refine Y.enter (N:=33) Tryz.func24 rfl rfl (by simp) [(0,.agg #[.slice ac f.inodes.length ad,.slice ae f.data.length af]),(1,.int .i64 a),(2,.int .i64 i),(3,.slice A3 L.length c3),(4,.slice A4 b.length c4)] (by simp) (l0:= []) trivial ?_
 refine Y.seq (Y.region ?_)
 refine Y.el rfl (gL (cs:= [.slice ac f.inodes.length ad,.slice ae f.data.length af]) (n:=2) rfl (.t .z) rfl rfl) ?_
 rintro _ _ ⟨g5,rfl,rfl⟩
 refine Y.el rfl (bP rfl aCu rfl rfl) ?_
 rintro _ _ ⟨g6,rfl,rfl⟩
 refine Y.nt (Y.seq (Y.seq (Y.region (Y.ql rfl (qW rfl bR (.t .g1) .g1 aX) (Y.mv rfl .g4 ?_)))))
 refine Y.cl rfl rfl Tryz.func43 rfl rfl (aR (.t .g1) (.t .z)) .n (fun _ _ hs tr=>aJa (aK f (tr.ctx aa) (tr.ctx ab)) _) ?_
 rintro _ _ ⟨rfl,rfl⟩
 refine Y.m .n ?_
 refine Y.mv rfl .g9 ?_
 refine Y.cl rfl rfl Tryz.func62 rfl rfl (aR (.t .g1) (.t .z)) .n (fun _ _ hs tr=>aM2 _ (tr.ctx h4)) ?_
 rintro _ _ ⟨rfl,rfl⟩
 refine Y.m .n ?_
 refine Y.as rfl .z (Y.nt (Y.seq (Y.region (Y.mv rfl .z (Y.ql rfl (bY rfl (.t .z) .c) (Y.nt ?_))))))
 refine Y.ac (.t .z) (fun b7=> ?_) (fun b7=> ?_)
 have aq:¬iX f a b=0:=b7
 refine Y.seq (Y.region (Y.mv rfl .g2 (Y.ql rfl (bC (cs:= [.int .i64 (if bX f a=0 then gW b else bX f a),.slice none 0 0,.slice none 0 0]) rfl pQ (pv1 (.t .z)) rfl) ?_)))
 refine Y.es (aE rfl) rfl (esW rfl (.t .g10) (.t .z) .z gV rfl rfl) ?_
 refine Y.nt (Y.ret (Y.j ?_))
 refine Y.add (c:=aG aW [] [.slice none 0 0]) (fun w S=>aL w S none) ?_
 refine Y.add (c:=aG dA [] [.slice none 0 0]) (fun w S=>aL w S none) ?_
 refine Y.i (dF rfl .g10 nX .g2 gV) (.c .g1 (.c .z .n)) ?_
 first |(rw [nE aq];exact⟨_,_,rfl,rfl⟩) |(rw [aB3 ag hfl];exact⟨_,_,rfl,rfl⟩)
 have ag:iX f a b=0:=b7
 obtain⟨hbc,hbz⟩:=wOk ag
 obtain⟨hF,⟨hpa,hpb⟩,bo,bp⟩:=oY hbc
 have ht:=mK hF
 have hI:=kH ht
 have hd:=kU ht
 have hB:=lP hI a
 have hfl:=mJ ht a
 refine Y.skip (Y.g (Y.seq (Y.region (Y.ql rfl (qW rfl bR (.t .g9) .g1 aX) ?_))))
 refine Y.cl rfl rfl Tryz.func63 rfl rfl (bH (.t .z)) .n (fun _ _ hs tr=>aMp (aK f (tr.ctx aa) (tr.ctx ab))) ?_
 rintro _ _ ⟨bq,br,rfl,rfl⟩
 refine Y.m (.c (.c .n)) ?_
 refine Y.h (WS.a .z) ?_
 rintro⟨a7,a8,rfl,ar,au,av⟩
 refine Y.h (WS.a .g1) ?_
 rintro⟨a9,ba,rfl,aw,ax,ay⟩
 refine Y.el rfl (bP rfl nK rfl rfl) ?_
 rintro _ _ ⟨g16,rfl,rfl⟩
 refine Y.es (aE rfl) rfl (esW rfl (.t .z) (.t .g1) .z aX rfl rfl) ?_
 refine Y.nt (Y.seq (Y.region (Y.mv rfl .g14 (Y.mv rfl .g16 (Y.mv rfl (.s16 .g2) (Y.mv rfl (.s16 .g4) ?_))))))
 refine Y.cl rfl rfl Tryz.func64 rfl rfl (aDw (.t .g4) (.t .g3) (.t .g2) (.t .g1) (.t .z)) (.c .g1 (.c .g1 .n)) (fun _ _ hs tr=>aM1 (f:=f) (tr.ptr .z ⟨rfl,rfl,oM rfl⟩) _ _ (tr.ctx h3) (tr.ctx h4) hs (by assumption) (by first | assumption |(constructor <;> omega))) ?_
 rintro _ _ ⟨rfl,rfl⟩
 refine Y.m (.c (.c .n)) ?_
 refine Y.ah (x':=(wrQ f a i L b).inodes) .z rfl ?_
 refine Y.ah (x':=(wrQ f a i L b).data) .g1 rfl ?_
 refine Y.as rfl .z (Y.nt (Y.seq (Y.region (Y.ql rfl (qW rfl bR (.t .g6) .g2 aX) (Y.mv rfl .g1 ?_)))))
 refine Y.cl rfl rfl Tryz.func65 rfl rfl (aR (.t .g1) (.t .z)) (.c .g1 (.c .z .n)) (fun _ _ hs tr=>aM9 (f:=(wrQ f a i L b)) _ hs) ?_
 rintro _ _ ⟨bs,bt,rfl,rfl⟩
 refine Y.m (.c (.c .n)) ?_
 refine Y.h (WS.a .z) ?_
 rintro⟨bb,bc,rfl,az,a0,a1⟩
 refine Y.h (WS.a .g1) ?_
 rintro⟨bd,be,rfl,a2,a3,a4⟩
 refine Y.es (aE rfl) rfl (esW rfl (.t (.s16 .g4)) (.t .z) .g3 gV rfl rfl) ?_
 refine Y.nt (Y.ret ?_)
 refine Y.i (dF rfl (.s16 .g4) nX .z gV) (.c .g1 (.c .g1 .n)) ?_
 first |(rw [nE aq];exact⟨_,_,rfl,rfl⟩) |(rw [aB3 ag hfl];exact⟨_,_,rfl,rfl⟩)

theorem aK8 {w0:World}{S0:Bs}{f:DFs}{a3:List Value} (h0:fD.ro w0 (FF w0 S0) f a3) (a:Int) (i:Int) {L:(List UInt8)}{v3:Value} (h3:bQ.ro w0 (FF w0 S0) L [v3]) {b:(List Int)}{v4:Value} (h4:aY.ro w0 (FF w0 S0) b [v4]):
    Calls Tryz.prog 25 #[.agg a3.toArray,.int .i64 a,.int .i64 i,v3,v4] w0 (aJ w0 S0 (aBs (aU f a i L b))):=by
 obtain⟨bx,bz,rfl,ad,ae⟩:=cV h0
 obtain⟨ag,ah,rfl,a4,a5,a6,a7⟩:=aD ad
 obtain⟨ai,aj,rfl,a8,a9,ba,bb⟩:=aD ae
 obtain⟨A3,c3,rfl,ce,cf,cg,b0⟩:=aD h3
 obtain⟨A4,c4,rfl,ch,ci,cj,ck⟩:=aD h4
 refine Y.enter (N:=69) Tryz.func25 rfl rfl (by simp) [(0,.agg #[.slice ag f.inodes.length ah,.slice ai f.data.length aj]),(1,.int .i64 a),(2,.int .i64 i),(3,.slice A3 L.length c3),(4,.slice A4 b.length c4)] (by simp) (l0:= []) trivial ?_
 refine Y.seq (Y.region ?_)
 refine Y.el rfl (gL (cs:= [.slice ag f.inodes.length ah,.slice ai f.data.length aj]) (n:=2) rfl (.t .z) rfl rfl) ?_
 rintro _ _ ⟨g5,rfl,rfl⟩
 refine Y.el rfl (bP rfl aCu rfl rfl) ?_
 rintro _ _ ⟨g6,rfl,rfl⟩
 refine Y.nt (Y.seq (Y.seq (Y.region (Y.mv rfl .g3 (Y.mv rfl .g7 ?_)))))
 refine Y.cl rfl rfl Tryz.func66 rfl rfl (eS (.t .g3) (.t .g1) (.t .z)) .n (fun _ _ hs tr=>aLt (tr.ptr .g1 (aK f (tr.ctx ad) (tr.ctx ae))) _ (tr.ctx h4)) ?_
 rintro _ _ ⟨rfl,rfl⟩
 refine Y.m .n ?_
 refine Y.as rfl .z (Y.nt (Y.seq (Y.region (Y.mv rfl .z (Y.ql rfl (bY rfl (.t .z) .c) (Y.nt ?_))))))
 refine Y.ac (.t .z) (fun b7=> ?_) (fun b7=> ?_)
 have aq:¬iX f a b=0:=b7
 refine Y.seq (Y.region (Y.mv rfl .g2 (Y.ql rfl (bC (cs:= [.int .i64 (iX f a b),.slice none 0 0,.slice none 0 0]) rfl pQ (pv1 (.t .z)) rfl) ?_)))
 refine Y.es (aE rfl) rfl (esW rfl (.t .g8) (.t .z) .z gV rfl rfl) ?_
 refine Y.nt (Y.ret (Y.j ?_))
 refine Y.add (c:=aG aW [] [.slice none 0 0]) (fun w S=>aL w S none) ?_
 refine Y.add (c:=aG dA [] [.slice none 0 0]) (fun w S=>aL w S none) ?_
 refine Y.i (dF rfl .g8 nX .g2 gV) (.c .g1 (.c .z .n)) ?_
 first |(rw [nE aq];exact⟨_,_,rfl,rfl⟩) |(rw [oD ac (by omega)];exact⟨_,_,rfl,rfl⟩) |(rw [oI ac (by omega) (by omega)];exact⟨_,_,rfl,rfl⟩) |(rw [oE ac (by omega) (by omega) (by omega)];exact⟨_,_,rfl,rfl⟩) |(rw [oF ac (by omega) (by omega) (by omega)];exact⟨_,_,rfl,rfl⟩)
 have ac:iX f a b=0:=b7
 obtain⟨hbc,hbz⟩:=wOk ac
 obtain⟨hF,⟨hpa,hpb⟩,cm,cn⟩:=oY hbc
 have ht:=mK hF
 have hI:=kH ht
 have hd:=kU ht
 have hB:=lP hI a
 have hfl:=mJ ht a
 refine Y.skip (Y.g (Y.seq (Y.seq (Y.region (Y.mv rfl .g10 ?_)))))
 refine Y.cl rfl rfl Tryz.func46 rfl rfl (eS (.t .z) .c .c) .n (fun _ _ hs tr=>wP _ _ _) ?_
 rintro _ _ ⟨rfl,rfl⟩
 refine Y.m .n ?_
 refine Y.ql rfl (fB rfl (.t .z)) (Y.nt ?_)
 refine Y.ac (.t .z) (fun b1=> ?_) (fun b1=> ?_)
 refine Y.seq (Y.region (Y.ql rfl (bC (cs:= [.int .i64 3,.slice none 0 0,.slice none 0 0]) rfl pQ (pv1 .c) rfl) ?_))
 refine Y.es (aE rfl) rfl (esW rfl (.t .g10) (.t .z) .z gV rfl rfl) ?_
 refine Y.nt (Y.ret (Y.j ?_))
 refine Y.add (c:=aG aW [] [.slice none 0 0]) (fun w S=>aL w S none) ?_
 refine Y.add (c:=aG dA [] [.slice none 0 0]) (fun w S=>aL w S none) ?_
 refine Y.i (dF rfl .g10 nX .g2 gV) (.c .g1 (.c .z .n)) ?_
 first |(rw [nE aq];exact⟨_,_,rfl,rfl⟩) |(rw [oD ac (by omega)];exact⟨_,_,rfl,rfl⟩) |(rw [oI ac (by omega) (by omega)];exact⟨_,_,rfl,rfl⟩) |(rw [oE ac (by omega) (by omega) (by omega)];exact⟨_,_,rfl,rfl⟩) |(rw [oF ac (by omega) (by omega) (by omega)];exact⟨_,_,rfl,rfl⟩)
 refine Y.skip (Y.g (Y.seq (Y.seq (Y.region (Y.mv rfl .g13 (Y.mv rfl .g15 (Y.ql rfl (bE rfl dP (.t .z)) ?_)))))))
 refine Y.ql rfl (bA (c:=i+(L.length:Int)) rfl (.t .g2) (.t .z) (wr (by omega) (by omega) (by omega))) ?_
 refine Y.ql rfl (fT rfl (.t .z) .c) (Y.nt ?_)
 refine Y.u (.t .z) (fun b2=> ?_) (fun b2=> ?_)
 refine Y.seq (Y.region (Y.ql rfl (bC (cs:= [.int .i64 2,.slice none 0 0,.slice none 0 0]) rfl pQ (pv1 .c) rfl) ?_))
 refine Y.es (aE rfl) rfl (esW rfl (.t .g15) (.t .z) .z gV rfl rfl) ?_
 refine Y.nt (Y.ret (Y.j ?_))
 refine Y.add (c:=aG aW [] [.slice none 0 0]) (fun w S=>aL w S none) ?_
 refine Y.add (c:=aG dA [] [.slice none 0 0]) (fun w S=>aL w S none) ?_
 refine Y.i (dF rfl .g15 nX .g2 gV) (.c .g1 (.c .z .n)) ?_
 first |(rw [nE aq];exact⟨_,_,rfl,rfl⟩) |(rw [oD ac (by omega)];exact⟨_,_,rfl,rfl⟩) |(rw [oI ac (by omega) (by omega)];exact⟨_,_,rfl,rfl⟩) |(rw [oE ac (by omega) (by omega) (by omega)];exact⟨_,_,rfl,rfl⟩) |(rw [oF ac (by omega) (by omega) (by omega)];exact⟨_,_,rfl,rfl⟩)
 refine Y.skip (Y.g (Y.seq (Y.seq (Y.region (Y.mv rfl (.s16 .g3) (Y.ql rfl (bE rfl dP (.t .z)) (Y.ql rfl (bU rfl (.t .z) .c) (Y.nil ?_))))))))
 refine Y.g ?_
 refine Y.u (.t .z) (fun b3=> ?_) (fun b3=> ?_)
 refine Y.seq (Y.region (Y.ql rfl (qW rfl bR (.t (.s16 .g2)) .g1 aX) ?_))
 refine Y.cl rfl rfl Tryz.func67 rfl rfl (bH (.t .z)) .n (fun _ _ hs tr=>uY (aK f (tr.ctx ad) (tr.ctx ae))) ?_
 rintro _ _ ⟨co,cp,rfl,rfl⟩
 refine Y.m (.c (.c .n)) ?_
 refine Y.h (WS.a .z) ?_
 rintro⟨aw,ax,rfl,bc,bd,be⟩
 refine Y.h (WS.a .g1) ?_
 rintro⟨ay,az,rfl,bf,bg,bh⟩
 refine Y.ql rfl (bC (cs:= [.int .i64 0,.slice aw f.inodes.length ax,.slice ay f.data.length az]) rfl pQ (pv1 (.t .z)) rfl) ?_
 refine Y.es (aE rfl) rfl (esW rfl (.t (.s16 .g4)) (.t .z) .g2 gV rfl rfl) ?_
 refine Y.nt (Y.ret (Y.j ?_))
 refine Y.i (dF rfl (.s16 .g4) nX .z gV) (.c .g1 (.c .g1 .n)) ?_
 first |(rw [nE aq];exact⟨_,_,rfl,rfl⟩) |(rw [oD ac (by omega)];exact⟨_,_,rfl,rfl⟩) |(rw [oI ac (by omega) (by omega)];exact⟨_,_,rfl,rfl⟩) |(rw [oE ac (by omega) (by omega) (by omega)];exact⟨_,_,rfl,rfl⟩) |(rw [oF ac (by omega) (by omega) (by omega)];exact⟨_,_,rfl,rfl⟩)
 refine Y.skip (Y.g (Y.seq (Y.region (Y.mv rfl (.s16 .g4) ?_))))
 refine Y.cl rfl rfl Tryz.func68 rfl rfl (aR (.t (.s16 .g3)) (.t .z)) .n (fun _ _ hs tr=>aJd (tr.ptr .g1 (aK f (tr.ctx ad) (tr.ctx ae))) _ (by assumption) (by first | assumption |(constructor <;> omega))) ?_
 rintro _ _ rfl
 refine Y.m (.c .n) ?_
 refine Y.h (WS.a .z) ?_
 rintro⟨ak,al,rfl,bi,bj,bk⟩
 refine Y.as rfl .z (Y.nt (Y.seq (Y.block ?_)))
 have am:bB f a=bB f a++List.replicate 0 0:=(aCt _)
 refine Y.ah .z am ?_
 refine Y.al .z (congrArg (fun z_:Nat=>(aG bQ (bB f a++List.replicate 0 0) [.slice ak z_ al]:Asn)) (congrArg List.length am)) ?_
 refine Y.eq .z (congrArg (fun z_:Nat=>(.slice ak z_ al:Value)) (congrArg List.length am)) ?_
 refine Y.eq .g1 (congrArg (fun z_:Nat=>(.slice ak z_ al:Value)) (congrArg List.length am)) ?_
 refine Y.ak (γ:=Nat×(Option Addr)×Nat) (fun⟨k,aa,ab⟩=> [(12,.slice aa (bB f a++List.replicate k 0).length ab),(10,.pointer (some ⟨g6,0,none⟩)),(5,.pointer (some ⟨g5,0,none⟩)),(1,.int .i64 a),(2,.int .i64 i),(3,.slice A3 L.length c3),(4,.slice A4 b.length c4)]) (fun⟨k,aa,ab⟩=> [aG bQ (bB f a++List.replicate k 0) [.slice aa (bB f a++List.replicate k 0).length ab],bW g6 48 3 1 [.int .i64 0,.slice none 0 0,.slice none 0 0],bW g5 27 2 1 [.slice ag f.inodes.length ah,.slice ai f.data.length aj]]) (fun⟨k,aa,ab⟩=>k≤Int.toNat (i+(L.length:Int)) - (bB f a).length) (fun⟨k,aa,ab⟩=>Int.toNat (i+(L.length:Int)) - (bB f a).length - k) (0,ak,al) (Nat.zero_le _) (.c .g1 (.c (.s16 .g4) (.c (.s16 .g5) (.c (.s16 .g7) (.c (.s16 .g8) (.c (.s16 .g9) (.c (.s16 .g10) .n))))))) (fun _ h=>h.sel (.c .z (.c .z (.c .z .n)))) ?_
 rintro⟨k,aa,ab⟩ hk
 have hpl:=tB (L:=bB f a) (k:=k)
 refine Y.seq (Y.seq (Y.region (Y.mv rfl .z (Y.ql rfl (bE rfl dP (.t .z)) (Y.mv rfl .g6 (Y.mv rfl .g8 (Y.ql rfl (bE rfl dP (.t .z)) ?_)))))))
 refine Y.ql rfl (bA (c:=i+(L.length:Int)) rfl (.t .g2) (.t .z) (wr (by omega) (by omega) (by omega))) ?_
 refine Y.ql rfl (cR rfl (.t .g4) (.t .z)) (Y.nt ?_)
 refine Y.u (.t .z) (fun b4=> ?_) (fun b4=> ?_)
 refine Y.skip (Y.g (Y.block (Y.region (Y.mv rfl .g7 ?_))))
 refine Y.el rfl (aM (cs:= [.int .u8 0]) rfl dP (inz iQ) (by decide) (pv1 .c) rfl rfl (by decide) rfl rfl) ?_
 rintro _ _ ⟨g27,rfl,rfl⟩
 refine Y.add (c:=aG qR (0:UInt8) [.int .u8 0]) (fun _ _=>⟨rfl,trivial⟩) ?_
 refine Y.el rfl (dD rfl dP iQ rfl (.t .g1) (.t .z) (.c .g2 (.c .g1 (.c .z .n))) (by first | omega |(simp <;> omega)) (by first | omega |(simp <;> omega))) ?_
 rintro _ _ rfl
 refine Y.ah .z aC1 ?_
 refine Y.h (WS.a .z) ?_
 rintro⟨a0,a1,rfl,bm,bn,bo⟩
 refine Y.er .g10 (Y.as rfl .z (Y.nil (Y.w ?_)))
 refine Y.ae ((k+1),a0,a1) (by omega) (by first | omega |(dsimp only;omega)) (.c .z (.c .g11 (.c .g12 (.c .g13 (.c .g14 (.c .g15 (.c .g16 .n))))))) (fun _ h=>h.sel (.c .z (.c .z (.c .z .n))))
 refine Y.exit (Y.y (Y.y (Y.aj (Y.g (Y.seq (Y.seq (Y.region (Y.ql rfl (aA rfl .c) ?_))))))))
 refine Y.nt (Y.block ?_)
 have af:bB f a++List.replicate k 0=lA (bB f a) (i+(L.length:Int)):=(wS (by omega) (by omega))
 refine Y.eq .g1 (congrArg (fun z_=>(.bool (decide (((z_).length:Int)<i+(L.length:Int))):Value)) af) ?_
 refine Y.eq .g6 (congrArg (fun z_=>(.int .i64 ((z_).length:Int):Value)) af) ?_
 refine Y.eq .g7 (congrArg (fun z_=>(.slice aa (z_).length ab:Value)) af) ?_
 refine Y.eq .g8 (congrArg (fun z_=>(.slice aa (z_).length ab:Value)) af) ?_
 refine Y.al .z (congrArg (fun z_=>(aG bQ (z_) [.slice aa (z_).length ab]:Asn)) af) ?_
 have hzl:= @kP (bB f a) (i+(L.length:Int))
 refine Y.ah (x':=sC (lA (bB f a) (i+(L.length:Int))) (Int.toNat i) L 0) .z (aJi _ _ _) ?_
 refine Y.ak (γ:=Nat) (fun q=> [(12,.slice aa (lA (bB f a) (i+(L.length:Int))).length ab),(13,.int .i64 (q:Int)),(10,.pointer (some ⟨g6,0,none⟩)),(5,.pointer (some ⟨g5,0,none⟩)),(1,.int .i64 a),(2,.int .i64 i),(3,.slice A3 L.length c3),(4,.slice A4 b.length c4)]) (fun q=> [aG bQ (sC (lA (bB f a) (i+(L.length:Int))) (Int.toNat i) L q) [.slice aa (lA (bB f a) (i+(L.length:Int))).length ab],bW g6 48 3 1 [.int .i64 0,.slice none 0 0,.slice none 0 0],bW g5 27 2 1 [.slice ag f.inodes.length ah,.slice ai f.data.length aj]]) (fun q=>q≤L.length) (fun q=>L.length - q) 0 (Nat.zero_le _) (.c .z (.c .g4 (.c .g9 (.c .g10 (.c .g11 (.c .g12 (.c .g13 (.c .g14 .n)))))))) (fun _ h=>h.sel (.c .z (.c .z (.c .z .n)))) ?_
 rintro q hq
 have hpq:(sC (lA (bB f a) (i+(L.length:Int))) (Int.toNat i) L q).length=(lA (bB f a) (i+(L.length:Int))).length:=aB5 (by omega) (by omega)
 refine Y.seq (Y.seq (Y.region (Y.mv rfl .g1 (Y.mv rfl .g7 (Y.ql rfl (bE rfl dP (.t .z)) (Y.ql rfl (cR rfl (.t .g2) (.t .z)) (Y.nt ?_)))))))
 refine Y.u (.t .z) (fun b5=> ?_) (fun b5=> ?_)
 refine Y.skip (Y.g (Y.seq (Y.block (Y.region (Y.mv rfl .g4 (Y.mv rfl .g10 (Y.mv rfl .g7 ?_)))))))
 refine Y.ql rfl (bA (c:=i+(q:Int)) rfl (.t .g1) (.t .z) (wr (by omega) (by omega) (by omega))) ?_
 refine Y.mv rfl .g14 (Y.mv rfl .g10 ?_)
 obtain⟨b6,an,ao⟩:=b0 (by omega)
 subst an
 obtain⟨bp,ap⟩:=aI (xs:=L) (j:=q) (by first | omega |(rw [hpq];omega))
 obtain⟨bq,ar,au,av⟩:=ao.elem ap
 obtain⟨rfl,b8⟩:=ar
 refine Y.ql rfl (aB (j:=q) rfl dP nJ (.t .g1) (.t .z) rfl (by first | omega |(rw [hpq];omega))) ?_
 refine Y.ql rfl (aP rfl sL (.t .z) (WS.m au av rfl)) ?_
 refine Y.h (WS.g .z (by omega)) ?_
 rintro⟨b9,rfl⟩
 refine Y.ql rfl (aB (j:=Int.toNat (i+(q:Int))) rfl dP nJ (.t .g7) (.t .g4) (by omega) (by first | omega |(rw [hpq];omega))) ?_
 refine Y.add (c:=aG qR bp [.int .u8 (bp.toNat:Int)]) (fun _ _=>⟨rfl,trivial⟩) ?_
 refine Y.es (aE rfl) rfl (nM (j:=Int.toNat (i+(q:Int))) rfl nJ (.t .z) (.t .g1) rfl (.c .g1 (.c .z .n)) (by first | omega |(rw [hpq];omega))) ?_
 refine Y.ah .z (by first | exact aF5 ap (by omega) |(rw [show Int.toNat (i+(q:Int))=Int.toNat i+q by omega,aF5 ap (by omega)])) ?_
 refine Y.nil (Y.w (Y.g (Y.region (Y.mv rfl .g14 ?_))))
 refine Y.ql rfl (bA (c:=((q+1:Nat):Int)) rfl (.t .z) .c (wr (by omega) (by omega) (by omega))) ?_
 refine Y.er .g16 (Y.as rfl .z (Y.nil ?_))
 refine Y.ae (q+1) (by omega) (by first | omega |(dsimp only;omega)) (.c .g16 (.c .z (.c (.s16 .g1) (.c (.s16 .g2) (.c (.s16 .g3) (.c (.s16 .g4) (.c (.s16 .g5) (.c (.s16 .g6) .n)))))))) (fun _ h=>h.sel (.c .z (.c .z (.c .z .n))))
 refine Y.exit (Y.y (Y.y (Y.aj (Y.g (Y.seq (Y.region (Y.ql rfl (qW rfl bR (.t .g7) .g2 aX) (Y.mv rfl .g9 ?_))))))))
 refine Y.mv rfl .g6 (Y.mv rfl .g14 ?_)
 have a2:sC (lA (bB f a) (i+(L.length:Int))) (Int.toNat i) L q=fO f a i L:=(aGl (by omega) (by omega))
 refine Y.al .z (congrArg (fun z_=>(aG bQ (z_) [.slice aa (lA (bB f a) (i+(L.length:Int))).length ab]:Asn)) a2) ?_
 refine Y.cl rfl rfl Tryz.func69 rfl rfl (pK (.t .g3) (.t .g2) (.t .g1) (.t .z)) .n (fun _ _ hs tr=>aMc (aK f (tr.ctx ad) (tr.ctx ae)) _ (tr.own .z) (tr.ctx h4) (by assumption) (by first | assumption |(constructor <;> omega)) (by assumption)) ?_
 rintro _ _ ⟨cq,cr,rfl,rfl⟩
 refine Y.m (.c (.c .n)) ?_
 refine Y.h (WS.a .z) ?_
 rintro⟨ca,cb,rfl,br,bs,bt⟩
 refine Y.h (WS.a .g1) ?_
 rintro⟨cc,cd,rfl,bu,bv,bw⟩
 refine Y.es (aE rfl) rfl (esW rfl (.t .g11) (.t .z) .g3 gV rfl rfl) ?_
 refine Y.nt (Y.ret ?_)
 refine Y.i (dF rfl .g11 nX .z gV) (.c .g1 (.c .g1 .n)) ?_
 first |(rw [nE aq];exact⟨_,_,rfl,rfl⟩) |(rw [oD ac (by omega)];exact⟨_,_,rfl,rfl⟩) |(rw [oI ac (by omega) (by omega)];exact⟨_,_,rfl,rfl⟩) |(rw [oE ac (by omega) (by omega) (by omega)];exact⟨_,_,rfl,rfl⟩) |(rw [oF ac (by omega) (by omega) (by omega)];exact⟨_,_,rfl,rfl⟩)

end Go.Proofs.YtmejbfmhaoilmaaGreat

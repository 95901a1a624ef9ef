/- What is proved: contracts of functions, one a function. No condition. -/
import Derived.Test.YtmejbfmhaoilmaaGreatBase1
import Derived.Test.YtmejbfmhaoilmaaGreatW40
namespace Go.Proofs.YtmejbfmhaoilmaaGreat
open Go Go.RowKit
set_option linter.unusedVariables false
set_option linter.unusedSimpArgs false
set_option maxHeartbeats 1000000
set_option maxRecDepth 20000
theorem aNc {w0:World}{S0:Bs}{f:DFs}{ai:List Value} (h0:eS.ro w0 (FF w0 S0) f ai) (a:Int) {L:(List UInt8)}{v2:Value} (h2:bX.ro w0 (FF w0 S0) L [v2]) {b:(List Int)}{v3:Value} (h3:aY.ro w0 (FF w0 S0) b [v3]):
    Calls Tryz.prog 29 #[.agg ai.toArray,.int .i64 a,v2,v3] w0 (aI w0 S0 (wE (zU f a L b))):=by
 obtain⟨a5,a6,rfl,ab,ac⟩:=cQ h0
 obtain⟨ad,ae,rfl,aj,ak,al,am⟩:=aD ab
 obtain⟨af,ag,rfl,an,ao,ap,aq⟩:=aD ac
 obtain⟨A2,c2,rfl,bg,bh,bi,bj⟩:=aD h2
 obtain⟨A3,c3,rfl,bk,bm,bn,bo⟩:=aD h3
 refine Y.enter (N:=32) Tryz.func29 rfl rfl (by simp) [(0,.agg #[.slice ad f.inodes.length ae,.slice af f.data.length ag]),(1,.int .i64 a),(2,.slice A2 L.length c2),(3,.slice A3 b.length c3)] (by simp) (l0:= []) trivial ?_
 refine Y.seq (Y.region ?_)
 refine Y.el rfl (fR (cs:= [.slice ad f.inodes.length ae,.slice af f.data.length ag]) (n:=2) rfl (.t .z) rfl rfl) ?_
 rintro _ _ ⟨g5,rfl,rfl⟩
 refine Y.el rfl (bD rfl vZ rfl rfl) ?_
 rintro _ _ ⟨g6,rfl,rfl⟩
 refine Y.nt (Y.seq (Y.seq (Y.region (Y.ql rfl (qW rfl bN (.t .g1) .g1 aX) (Y.mv rfl .g4 ?_)))))
 refine Y.cl rfl rfl Tryz.func43 rfl rfl (aR (.t .g1) (.t .z)) .n (fun _ _ hs tr=>aIc (aM f (tr.ctx ab) (tr.ctx ac)) _) ?_
 rintro _ _ ⟨rfl,rfl⟩
 refine Y.r .n ?_
 refine Y.mv rfl .g8 ?_
 refine Y.cl rfl rfl Tryz.func62 rfl rfl (aR (.t .g1) (.t .z)) .n (fun _ _ hs tr=>aMc _ (tr.ctx h3)) ?_
 rintro _ _ ⟨rfl,rfl⟩
 refine Y.r .n ?_
 refine Y.as rfl .z (Y.nt (Y.seq (Y.region (Y.mv rfl .z (Y.ql rfl (cC rfl (.t .z) .c) (Y.nt ?_))))))
 refine Y.ad (.t .z) (fun b7=> ?_) (fun b7=> ?_)
 have ah:¬gO f a b=0:=b7
 refine Y.seq (Y.region (Y.mv rfl .g2 (Y.ql rfl (aZ (cs:= [.int .i64 (if bS f a=0 then gN b else bS f a),.slice none 0 0,.slice none 0 0]) rfl mZ (pv1 (.t .z)) rfl) ?_)))
 refine Y.es (aE rfl) rfl (esW rfl (.t .g10) (.t .z) .z fH rfl rfl) ?_
 refine Y.nt (Y.ret (Y.m ?_))
 refine Y.add (c:=aG aW [] [.slice none 0 0]) (fun w S=>aK w S none) ?_
 refine Y.add (c:=aG cV [] [.slice none 0 0]) (fun w S=>aK w S none) ?_
 refine Y.j (dA rfl .g10 lN .g2 fH) (.c .g1 (.c .z .n)) ?_
 first |(rw [aCc ah];exact⟨_,_,rfl,rfl⟩) |(rw [oU aa,qZ (by omega)];exact⟨_,_,rfl,rfl⟩) |(rw [oU aa,yZ (by omega)];exact⟨_,_,rfl,rfl⟩) |(rw [oU aa];exact⟨_,_,rfl,rfl⟩)
 have aa:gO f a b=0:=b7
 obtain⟨hbc,hbz⟩:=wOk aa
 obtain⟨hF,⟨hpa,hpb⟩,bp,bq⟩:=nI hbc
 have ht:=mR hF
 have hI:=kC ht
 have hd:=kD ht
 have hB:=kO hI a
 have hfl:=nL ht a
 refine Y.skip (Y.g (Y.seq (Y.seq (Y.region (Y.mv rfl .g12 (Y.ql rfl (bE rfl fO (.t .z)) (Y.ql rfl (gA rfl (.t .z) .c) (Y.nil ?_))))))))
 refine Y.g ?_
 refine Y.u (.t .z) (fun a7=> ?_) (fun a7=> ?_)
 refine Y.seq (Y.region (Y.ql rfl (aZ (cs:= [.int .i64 2,.slice none 0 0,.slice none 0 0]) rfl mZ (pv1 .c) rfl) ?_))
 refine Y.es (aE rfl) rfl (esW rfl (.t .g12) (.t .z) .z fH rfl rfl) ?_
 refine Y.nt (Y.ret (Y.m ?_))
 refine Y.add (c:=aG aW [] [.slice none 0 0]) (fun w S=>aK w S none) ?_
 refine Y.add (c:=aG cV [] [.slice none 0 0]) (fun w S=>aK w S none) ?_
 refine Y.j (dA rfl .g12 lN .g2 fH) (.c .g1 (.c .z .n)) ?_
 first |(rw [aCc ah];exact⟨_,_,rfl,rfl⟩) |(rw [oU aa,qZ (by omega)];exact⟨_,_,rfl,rfl⟩) |(rw [oU aa,yZ (by omega)];exact⟨_,_,rfl,rfl⟩) |(rw [oU aa];exact⟨_,_,rfl,rfl⟩)
 refine Y.skip (Y.g (Y.seq (Y.region (Y.ql rfl (qW rfl bN (.t .g12) .g1 aX) ?_))))
 refine Y.cl rfl rfl Tryz.func63 rfl rfl (bH (.t .z)) .n (fun _ _ hs tr=>aJ9 (aM f (tr.ctx ab) (tr.ctx ac))) ?_
 rintro _ _ ⟨br,bs,rfl,rfl⟩
 refine Y.r (.c (.c .n)) ?_
 refine Y.i (WS.a .z) ?_
 rintro⟨a8,a9,rfl,ar,au,av⟩
 refine Y.i (WS.a .g1) ?_
 rintro⟨ba,bb,rfl,aw,ax,ay⟩
 refine Y.el rfl (bD rfl mQ rfl rfl) ?_
 rintro _ _ ⟨g19,rfl,rfl⟩
 refine Y.es (aE rfl) rfl (esW rfl (.t .z) (.t .g1) .z aX rfl rfl) ?_
 refine Y.nt (Y.seq ?_)
 refine Y.sel (.c .g1 (.c .g1 (.c .z (.c .z (.c .z .n))))) ?_
 refine Y.dr .g2 6 gB ?_
 refine Y.sc (qs 0 4++ [(4,false),(5,false),(6,false)]) (by kernel_rfl) ?_
 refine Y.dk rfl rfl .g2 (qW rfl bN (.t .z) .z aX) (Y.dm rfl rfl .g2 (.s16 .g2) (Y.dm rfl rfl .g2 (.s16 .g4) (Y.dm rfl rfl .g2 (.s16 .g6) ?_)))
 refine Y.call (aC rfl rfl) rfl (by decide) rfl (bF rfl Tryz.func72 rfl rfl (nO (.t .g4) (.t .g2) (.t .g1) (.t .z))) (.c .z (.c .z .n)) (fun _ _ hs tr=>aK6 (f:=f) (tr.ptr .z ⟨rfl,rfl,nJ rfl⟩) _ (tr.ctx h2) (tr.ctx h3) hs (by assumption) (by assumption) (by first | assumption |(constructor <;> omega)) (by first | omega |(simp only [lD,List.length_take];omega))) ?_
 rintro _ _ ⟨rfl,rfl⟩
 refine Y.r (.c (.c .n)) ?_
 refine Y.af (x':=(vA f a L b).inodes) .z rfl ?_
 refine Y.af (x':=(vA f a L b).data) .g1 rfl ?_
 refine Y.sk .g2 ?_
 refine Y.call (aC rfl rfl) rfl (by decide) rfl (bF rfl Tryz.func65 rfl rfl (aR (.t .g4) (.t .z))) (.c .g1 (.c .z .n)) (fun _ _ hs tr=>aL1 (f:=(vA f a L b)) _ hs) ?_
 rintro _ _ ⟨bt,bu,rfl,rfl⟩
 refine Y.r (.c (.c .n)) ?_
 refine Y.i (WS.a .z) ?_
 rintro⟨bc,bd,rfl,az,a0,a1⟩
 refine Y.i (WS.a .g1) ?_
 rintro⟨be,bf,rfl,a2,a3,a4⟩
 refine Y.sk .g2 ?_
 refine Y.es (aC rfl rfl) rfl (esW rfl (.t (.s16 .g4)) (.t .z) .g3 fH rfl rfl) ?_
 refine Y.sl rfl ?_
 refine Y.aa ?_
 refine Y.ai (by kernel_rfl) ?_
 refine Y.g (Y.ret ?_)
 refine Y.j (dA rfl (.s16 .g4) lN .z fH) (.c .g1 (.c .g1 .n)) ?_
 first |(rw [aCc ah];exact⟨_,_,rfl,rfl⟩) |(rw [oU aa,qZ (by omega)];exact⟨_,_,rfl,rfl⟩) |(rw [oU aa,yZ (by omega)];exact⟨_,_,rfl,rfl⟩) |(rw [oU aa];exact⟨_,_,rfl,rfl⟩)

end Go.Proofs.YtmejbfmhaoilmaaGreat

/- What is proved: contracts of functions, one a function. No condition. -/
import Derived.Test.YtmejbfmhaoilmaaGreatBase1
import Derived.Test.YtmejbfmhaoilmaaGreatW31
namespace Go.Proofs.YtmejbfmhaoilmaaGreat
open Go Go.RowKit
set_option linter.unusedVariables false
set_option linter.unusedSimpArgs false
set_option maxHeartbeats 1000000
set_option maxRecDepth 20000
theorem aL4 {w0:World}{S0:Bs}{f:DFs}{ag:Addr} (h0:gK fD w0 (FF w0 S0) ag f) (a:Int):
    Calls Tryz.prog 125 #[.pointer (some ag),.int .i64 a] w0 (aJ w0 S0 (fun r l=>r= .int .i64 (jB f a)∧l= [])):=by
 obtain⟨bn,ba,bb,bc⟩:=id h0
 obtain⟨bd,be,rfl,ah,ai⟩:=cV bb
 obtain⟨bf,bg,rfl,ax,ay,az,aa⟩:=aD ah
 obtain⟨bh,bi,rfl,a0,a1,a2,a3⟩:=aD ai
 refine Y.enter (N:=24) Tryz.func125 rfl rfl (by simp) [(0,.pointer (some ag)),(1,.int .i64 a)] (by simp) (l0:= []) trivial ?_
 refine Y.seq (Y.region (Y.ql rfl (aA rfl .c) (Y.nt (Y.seq (Y.seq (Y.region (Y.mv rfl .g1 ?_)))))))
 refine Y.cl rfl rfl Tryz.func52 rfl rfl (bH (.t .z)) .n (fun _ _ hs tr=>aKu (tr.ctxP h0)) ?_
 rintro _ _ ⟨rfl,rfl⟩
 refine Y.m .n ?_
 refine Y.as rfl .z (Y.nt (Y.seq (Y.region (Y.mv rfl .z (Y.ql rfl (bY rfl (.t .z) .c) (Y.nt ?_))))))
 refine Y.ac (.t .z) (fun b3=> ?_) (fun b3=> ?_)
 refine Y.seq (Y.region (Y.mv rfl .g2 (Y.er .g6 (Y.as rfl .z (Y.nt (Y.ret (Y.j ?_)))))))
 refine Y.i (aT rfl .z) .n ?_
 exact⟨by first |(rw [rL (by assumption)];done) |(rw [rX (by assumption) (by assumption)];done) |(rw [rO (by assumption) (by assumption) (by omega)];done) |(rw [rS (by assumption) (by assumption) (by omega)];done),rfl⟩
 have aj:=kH b3
 refine Y.skip (Y.g (Y.seq (Y.seq (Y.region (Y.mv rfl .g6 (Y.mv rfl .g8 ?_))))))
 refine Y.cl rfl rfl Tryz.func90 rfl rfl (aR (.t .g1) (.t .z)) .n (fun _ _ hs tr=>aJr (tr.ctxP h0) _) ?_
 rintro _ _ ⟨rfl,rfl⟩
 refine Y.m .n ?_
 refine Y.ql rfl (fB rfl (.t .z)) (Y.nt ?_)
 refine Y.ac (.t .z) (fun b5=> ?_) (fun b5=> ?_)
 refine Y.seq (Y.region (Y.er .g9 (Y.ql rfl (aA rfl .c) (Y.nt (Y.ret (Y.j ?_))))))
 refine Y.i (aT rfl .z) .n ?_
 exact⟨by first |(rw [rL (by assumption)];done) |(rw [rX (by assumption) (by assumption)];done) |(rw [rO (by assumption) (by assumption) (by omega)];done) |(rw [rS (by assumption) (by assumption) (by omega)];done),rfl⟩
 refine Y.skip (Y.g (Y.seq (Y.seq (Y.region (Y.mv rfl .g10 (Y.nc rfl .z (Y.fa rfl .z aO (Y.le rfl bT .z ba bc ?_))))))))
 refine Y.mv rfl .g15 ?_
 obtain⟨bo,ab,ac⟩:=aa (by omega)
 subst ab
 obtain⟨x7,af⟩:=aI (xs:=f.inodes) (j:=Int.toNat a) (by omega)
 obtain⟨bj,ak,al,am⟩:=ac.elem af
 obtain⟨a4,a5,rfl,ad,ae⟩:=cM ak
 obtain⟨a6,a7,rfl,an,ao,ap,aq⟩:=aD ad
 obtain⟨a8,a9,rfl,ar,au,av,aw⟩:=aD ae
 have bp:=dC (i:=a) af (by omega)
 have bq:=dE (a:=a) af (by omega)
 have bk:=dK aj _ (List.mem_of_getElem? af)
 refine Y.ql rfl (aB (j:=Int.toNat a) rfl cQ aV (.t .g1) (.t .z) (by omega) (by omega)) ?_
 refine Y.fa rfl .z cA (Y.le rfl cB .z al am (Y.ql rfl (bY rfl (.t .z) .c) (Y.nt ?_)))
 refine Y.ac (.t .z) (fun bm=> ?_) (fun bm=> ?_)
 refine Y.seq (Y.region (Y.er (.s16 .g2) (Y.ql rfl (aA rfl .c) (Y.nt (Y.ret (Y.j ?_))))))
 refine Y.i (aT rfl .z) .n ?_
 exact⟨by first |(rw [rL (by assumption)];done) |(rw [rX (by assumption) (by assumption)];done) |(rw [rO (by assumption) (by assumption) (by omega)];done) |(rw [rS (by assumption) (by assumption) (by omega)];done),rfl⟩
 refine Y.skip (Y.g (Y.seq (Y.region (Y.er (.s16 .g2) (Y.ql rfl (aA rfl .c) (Y.nt (Y.ret ?_)))))))
 refine Y.i (aT rfl .z) .n ?_
 exact⟨by first |(rw [rL (by assumption)];done) |(rw [rX (by assumption) (by assumption)];done) |(rw [rO (by assumption) (by assumption) (by omega)];done) |(rw [rS (by assumption) (by assumption) (by omega)];done),rfl⟩

theorem sE {w0:World}{S0:Bs}{es:(List bV)}{v0:Value} (h0:dR.ro w0 (FF w0 S0) es [v0]) (s:ByteArray) (aj:s.size≤140737488351232):
    Calls Tryz.prog 127 #[v0,.string s] w0 (aJ w0 S0 (fun r l=>r= .int .i64 (fG (dH s) es)∧l= [])):=by
 obtain⟨A0,c0,rfl,ak,al,am,ah⟩:=aD h0
 refine Y.enter (N:=20) Tryz.func127 rfl rfl (by simp) [(0,.slice A0 es.length c0),(1,.string s)] (by simp) (l0:= []) trivial ?_
 refine Y.seq (Y.region (Y.ql rfl (aA rfl .c) (Y.nt (Y.seq (Y.seq (Y.region (Y.ql rfl (aA rfl .c) ?_)))))))
 refine Y.nt (Y.block ?_)
 refine Y.ak (γ:=Nat) (fun k=> [(5,.int .i64 (k:Int)),(0,.slice A0 es.length c0),(1,.string s)]) (fun k=> []) (fun k=>k≤es.length∧∀j e,j<k→es[j]? =some e→dH s e=false) (fun k=>es.length - k) 0 ⟨Nat.zero_le _,eZ (q:=fun _ e=>dH s e=false)⟩ (.c .z (.c .g2 (.c .g3 .n))) (fun _ h=>h) ?_
 rintro k ⟨hk,hallk⟩
 refine Y.seq (Y.seq (Y.region (Y.mv rfl .z (Y.mv rfl .g2 (Y.ql rfl (bE rfl eA (.t .z)) (Y.ql rfl (cR rfl (.t .g2) (.t .z)) (Y.nt ?_)))))))
 refine Y.u (.t .z) (fun b2=> ?_) (fun b2=> ?_)
 refine Y.skip (Y.g (Y.seq (Y.block (Y.seq (Y.region (Y.mv rfl .g5 (Y.mv rfl .g5 ?_)))))))
 obtain⟨an,aa,ab⟩:=ah (by omega)
 subst aa
 obtain⟨x4,ac⟩:=aI (xs:=es) (j:=k) (by omega)
 obtain⟨ai,ad,ae,af⟩:=ab.elem ac
 obtain⟨rfl,ag⟩:=fV ad
 refine Y.ql rfl (aB (j:=k) rfl eA gH (.t .g1) (.t .z) rfl (by omega)) ?_
 refine Y.fa rfl .z mX (Y.le rfl kY .z ae af (Y.mv rfl .g11 (Y.ql rfl (wR rfl (.t .g1) (.t .z)) (Y.nt ?_))))
 refine Y.u (.t .z) (fun b6=> ?_) (fun b6=> ?_)
 refine Y.seq (Y.region (Y.mv rfl .g11 (Y.as rfl .z (Y.nt (Y.ret (Y.v (Y.j ?_)))))))
 refine Y.j (Y.v (Y.j ?_))
 refine Y.i (aT rfl .z) .n ?_
 exact⟨by rw [rZ ac (decide_eq_true (by assumption)) hallk],rfl⟩
 refine Y.skip (Y.w (Y.g (Y.region (Y.mv rfl .g11 ?_))))
 refine Y.ql rfl (bA (c:=((k+1:Nat):Int)) rfl (.t .z) .c (wr (by omega) (by omega) (by omega))) ?_
 refine Y.er .g13 (Y.as rfl .z (Y.nil ?_))
 refine Y.ae (k+1) ⟨by omega,eC (q:=fun _ e=>dH s e=false) hallk ac (decide_eq_false (by assumption))⟩ (by first | omega |(dsimp only;omega)) (.c .z (.c .g14 (.c .g15 .n))) (fun _ h=>h)
 refine Y.exit (Y.y (Y.y (Y.aj (Y.g (Y.seq (Y.region (Y.ql rfl (aA rfl .c) (Y.nil ?_))))))))
 refine Y.g (Y.ret ?_)
 refine Y.i (aT rfl .z) .n ?_
 exact⟨by rw [rK (fun j x hx=>hallk j x (by have:=(List.getElem?_eq_some_iff.1 hx).1;omega) hx)],rfl⟩

theorem aLm {w0:World}{S0:Bs}{f:DFs}{bo:List Value} (h0:fD.ro w0 (FF w0 S0) f bo) (a:Int):
    Calls Tryz.prog 180 #[.agg bo.toArray,.int .i64 a] w0 (aJ w0 S0 (aKa (uE f a))):=by
 obtain⟨b3,b4,rfl,ar,au⟩:=cV h0
 obtain⟨av,ag,rfl,bp,bq,br,aw⟩:=aD ar
 obtain⟨ah,ai,rfl,bs,bt,bu,bv⟩:=aD au
 refine Y.enter (N:=42) Tryz.func180 rfl rfl (by simp) [(0,.agg #[.slice av f.inodes.length ag,.slice ah f.data.length ai]),(1,.int .i64 a)] (by simp) (l0:= []) trivial ?_
 refine Y.seq (Y.region ?_)
 refine Y.el rfl (gL (cs:= [.slice av f.inodes.length ag,.slice ah f.data.length ai]) (n:=2) rfl (.t .z) rfl rfl) ?_
 rintro _ _ ⟨g3,rfl,rfl⟩
 refine Y.el rfl (bP rfl aJm rfl rfl) ?_
 rintro _ _ ⟨g4,rfl,rfl⟩
 refine Y.nt (Y.seq (Y.seq (Y.region (Y.mv rfl .g3 ?_))))
 refine Y.cl rfl rfl Tryz.func125 rfl rfl (aR (.t .g2) (.t .z)) .n (fun _ _ hs tr=>aL4 (tr.ptr .g1 (aK f (tr.ctx ar) (tr.ctx au))) _) ?_
 rintro _ _ ⟨rfl,rfl⟩
 refine Y.m .n ?_
 refine Y.as rfl .z (Y.nt (Y.seq (Y.region (Y.mv rfl .z (Y.ql rfl (bY rfl (.t .z) .c) (Y.nt ?_))))))
 refine Y.ac (.t .z) (fun b5=> ?_) (fun b5=> ?_)
 refine Y.seq (Y.region (Y.mv rfl .g2 (Y.ql rfl (bC (cs:= [.int .i64 (jB f a),.slice none 0 0]) rfl aIj (pv1 (.t .z)) rfl) ?_)))
 refine Y.es (aE rfl) rfl (esW rfl (.t .g7) (.t .z) .z wB rfl rfl) ?_
 refine Y.nt (Y.ret (Y.j ?_))
 refine Y.add (c:=aG fM [] [.slice none 0 0]) (fun w S=>aL w S none) ?_
 refine Y.i (dF rfl .g7 aFw .g1 wB) (.c .z .n) ?_
 first |(rw [aB4 (by assumption)];exact⟨_,rfl,rfl⟩) |(rw [aA3 (by assumption)];exact⟨_,rfl,rfl⟩)
 have ax:=aK0 b5
 have ba:=kH ax.1
 obtain⟨b6,b7⟩:=ax.2.1
 refine Y.skip (Y.g (Y.seq (Y.region (Y.ql rfl (bC (cs:= [.int .i64 0,.slice none 0 0]) rfl aIj pv0 rfl) ?_))))
 refine Y.el rfl (bP rfl aJm rfl rfl) ?_
 rintro _ _ ⟨g8,rfl,rfl⟩
 refine Y.es (aE rfl) rfl (esW rfl (.t .z) (.t .g1) .z wB rfl rfl) ?_
 refine Y.nt (Y.seq (Y.seq (Y.region (Y.ql rfl (aA rfl .c) (Y.nt (Y.block ?_))))))
 refine Y.add (c:=aG fM [] [.slice none 0 0]) (fun w S=>aL w S none) ?_
 obtain⟨bb,aj,ak⟩:=aw (by omega)
 subst aj
 obtain⟨al,ac⟩:=aI (xs:=f.inodes) (j:=Int.toNat a) (by omega)
 obtain⟨bw,ay,ae,af⟩:=ak.elem ac
 obtain⟨bc,bd,rfl,am,an⟩:=cM ay
 obtain⟨be,bf,rfl,a3,a4,a5,a6⟩:=aD am
 obtain⟨bg,bh,rfl,a7,a8,a9,ad⟩:=aD an
 have b8:=dC (i:=a) ac (by omega)
 have bi:=dE (a:=a) ac (by omega)
 have az:=dK ba _ (List.mem_of_getElem? ac)
 refine Y.ak (γ:=Nat×(Option Addr)×Nat) (fun⟨k,aa,ab⟩=> [(7,.int .i64 (k:Int)),(6,.pointer (some ⟨g8,0,none⟩)),(4,.pointer (some ⟨g4,0,none⟩)),(2,.pointer (some ⟨g3,0,none⟩)),(1,.int .i64 a)]) (fun⟨k,aa,ab⟩=> [aG fM (mV al.ents k) [.slice aa (mV al.ents k).length ab],bW g8 65 2 1 [.int .i64 0,.slice aa (mV al.ents k).length ab],bW g4 65 2 1 [.int .i64 0,.slice none 0 0],bW g3 27 2 1 [.slice (some bb) f.inodes.length ag,.slice ah f.data.length ai]]) (fun⟨k,aa,ab⟩=>k≤al.ents.length) (fun⟨k,aa,ab⟩=>al.ents.length - k) (0,none,0) (Nat.zero_le _) (.c .z (.c .g1 (.c .g8 (.c .g9 (.c .g11 .n))))) (fun _ h=>h.sel (.c .z (.c .z (.c .z (.c .z .n))))) ?_
 rintro⟨k,aa,ab⟩ hk
 have hnl:=aAp (es:=al.ents) (k:=k)
 refine Y.seq (Y.seq (Y.region (Y.mv rfl .z (Y.fa rfl .g4 aO (Y.ld rfl bT .z .g3 (Y.mv rfl .g7 ?_))))))
 refine Y.ql rfl (aB (j:=Int.toNat a) rfl cQ aV (.t .g1) (.t .z) (by omega) (by omega)) ?_
 refine Y.fa rfl .z bS (Y.le rfl eE .z ae af (Y.ql rfl (bE rfl eA (.t .z)) (Y.ql rfl (cR rfl (.t .g7) (.t .z)) (Y.nt ?_))))
 refine Y.u (.t .z) (fun b9=> ?_) (fun b9=> ?_)
 refine Y.skip (Y.g (Y.seq (Y.block ?_)))
 refine Y.dr .g1 15 gE ?_
 refine Y.sc (qs 0 12++ [(12,false),(13,false),(14,true),(15,false)]) (by kernel_rfl) ?_
 refine Y.df rfl rfl .g1 .g10 zF (Y.dl rfl rfl .g1 aIr .z .z (Y.df rfl rfl .g1 .g14 aO (Y.dl rfl rfl .g1 bT .z .g2 (Y.dm rfl rfl .g1 (.s16 .g1) ?_))))
 refine Y.dk rfl rfl .g1 (aB (j:=Int.toNat a) rfl cQ aV (.t .g1) (.t .z) (by omega) (by omega)) ?_
 refine Y.df rfl rfl .g1 .z bS (Y.de rfl rfl .g1 eE .z ae af (Y.dm rfl rfl .g1 (.s16 .g1) ?_))
 obtain⟨ca,ao,ap⟩:=ad (by omega)
 subst ao
 obtain⟨bj,aq⟩:=aI (xs:=al.ents) (j:=k) (by omega)
 obtain⟨bx,a0,a1,a2⟩:=ap.elem aq
 obtain⟨rfl,bk⟩:=fV a0
 have bz:=pV az _ _ aq
 refine Y.dk rfl rfl .g1 (aB (j:=k) rfl eA gH (.t .g1) (.t .z) rfl (by omega)) ?_
 refine Y.df rfl rfl .g1 .z mX (Y.de rfl rfl .g1 kY .z a1 a2 ?_)
 refine Y.e (aC rfl rfl) rfl (by decide) rfl (aM (cs:= [.string bj.name]) rfl jQ (inz nC) (by decide) (pv1 (.t .z)) rfl rfl (by decide) rfl rfl) ?_
 rintro _ _ ⟨g19,rfl,rfl⟩
 refine Y.sk .g2 ?_
 refine Y.add (c:=aG vA bj.name [.string bj.name]) (fun _ _=>⟨rfl,by assumption⟩) ?_
 refine Y.e (aC rfl rfl) rfl (by decide) rfl (dD rfl jQ nC rfl (.t .g11) (.t .z) (.c .g2 (.c .g1 (.c .z .n))) (by first | omega |(simp only [List.length_append,List.length_take,List.length_nil,List.length_cons];omega)) (by first | omega |(simp only [List.length_append,List.length_take,List.length_nil,List.length_cons];omega))) ?_
 rintro _ _ rfl
 refine Y.ah .z (aEx aq) ?_
 refine Y.h (WS.a .z) ?_
 rintro⟨bm,bn,rfl,b0,b1,b2⟩
 refine Y.sk .g1 ?_
 refine Y.df rfl rfl .g1 (.s16 .g8) zF ?_
 refine Y.es (aC rfl rfl) rfl (es1 (off:=1) rfl aLi (.t .z) (.t .g1) rfl rfl .g1 rfl .g1) ?_
 refine Y.sl rfl ?_
 refine Y.aa ?_
 refine Y.ai (by kernel_rfl) ?_
 refine Y.w (Y.g (Y.region (Y.mv rfl (.s16 .g8) ?_)))
 refine Y.ql rfl (bA (c:=((k+1:Nat):Int)) rfl (.t .z) .c (wr (by omega) (by omega) (by omega))) ?_
 refine Y.er (.s16 .g10) (Y.as rfl .z (Y.nil ?_))
 refine Y.ae ((k+1),bm,bn) (by omega) (by first | omega |(dsimp only;omega)) (.c .z (.c (.s16 .g11) (.c (.s16 .g12) (.c (.s16 .g13) (.c (.s16 .g14) .n))))) (fun _ h=>h.sel (.c .g1 (.c .z (.c .z (.c .z .n)))))
 refine Y.exit (Y.y (Y.y (Y.aj (Y.g (Y.seq (Y.region (Y.ql rfl (qW rfl aFw (.t .g10) .g1 wB) ?_)))))))
 refine Y.es (aE rfl) rfl (esW rfl (.t .g12) (.t .z) .g2 wB rfl rfl) ?_
 refine Y.nt (Y.ret ?_)
 refine Y.ah (x':=tV (aH f.inodes a)) .g1 (by rw [bi];exact aBg (by omega)) ?_
 refine Y.i (dF rfl .g12 aFw .g1 wB) (.c .z .n) ?_
 first |(rw [aB4 (by assumption)];exact⟨_,rfl,rfl⟩) |(rw [aA3 (by assumption)];exact⟨_,rfl,rfl⟩)

end Go.Proofs.YtmejbfmhaoilmaaGreat

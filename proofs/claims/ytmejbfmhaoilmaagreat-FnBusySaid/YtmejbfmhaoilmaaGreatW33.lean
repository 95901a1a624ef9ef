/- What is proved: contracts of functions, one a function. No condition. -/
import Derived.Test.YtmejbfmhaoilmaaGreatBase1
import Derived.Test.YtmejbfmhaoilmaaGreatW31
namespace Go.Proofs.YtmejbfmhaoilmaaGreat
open Go Go.RowKit
set_option linter.unusedVariables false
set_option linter.unusedSimpArgs false
set_option maxHeartbeats 1000000
set_option maxRecDepth 20000
theorem aL2 {w0:World}{S0:Bs}{f:DFs}{ag:Addr} (h0:gJ eS w0 (FF w0 S0) ag f) (a:Int):
    Calls Tryz.prog 125 #[.pointer (some ag),.int .i64 a] w0 (aI w0 S0 (fun r l=>r= .int .i64 (iT f a)∧l= [])):=by
 obtain⟨bn,ba,bb,bc⟩:=id h0
 obtain⟨bd,be,rfl,ah,ai⟩:=cQ bb
 obtain⟨bf,bg,rfl,ax,ay,az,aa⟩:=aD ah
 obtain⟨bh,bi,rfl,a0,a1,a2,a3⟩:=aD ai
 refine Y.enter (N:=24) Tryz.func125 rfl rfl (by simp) [(0,.pointer (some ag)),(1,.int .i64 a)] (by simp) (l0:= []) trivial ?_
 refine Y.seq (Y.region (Y.ql rfl (aA rfl .c) (Y.nt (Y.seq (Y.seq (Y.region (Y.mv rfl .g1 ?_)))))))
 refine Y.cl rfl rfl Tryz.func52 rfl rfl (bH (.t .z)) .n (fun _ _ hs tr=>aLq (tr.ctxP h0)) ?_
 rintro _ _ ⟨rfl,rfl⟩
 refine Y.r .n ?_
 refine Y.as rfl .z (Y.nt (Y.seq (Y.region (Y.mv rfl .z (Y.ql rfl (cC rfl (.t .z) .c) (Y.nt ?_))))))
 refine Y.ad (.t .z) (fun b3=> ?_) (fun b3=> ?_)
 refine Y.seq (Y.region (Y.mv rfl .g2 (Y.er .g6 (Y.as rfl .z (Y.nt (Y.ret (Y.m ?_)))))))
 refine Y.j (aT rfl .z) .n ?_
 exact⟨by first |(rw [rT (by assumption)];done) |(rw [rW (by assumption) (by assumption)];done) |(rw [rQ (by assumption) (by assumption) (by omega)];done) |(rw [rN (by assumption) (by assumption) (by omega)];done),rfl⟩
 have aj:=kC b3
 refine Y.skip (Y.g (Y.seq (Y.seq (Y.region (Y.mv rfl .g6 (Y.mv rfl .g8 ?_))))))
 refine Y.cl rfl rfl Tryz.func90 rfl rfl (aR (.t .g1) (.t .z)) .n (fun _ _ hs tr=>aJi (tr.ctxP h0) _) ?_
 rintro _ _ ⟨rfl,rfl⟩
 refine Y.r .n ?_
 refine Y.ql rfl (eY rfl (.t .z)) (Y.nt ?_)
 refine Y.ad (.t .z) (fun b5=> ?_) (fun b5=> ?_)
 refine Y.seq (Y.region (Y.er .g9 (Y.ql rfl (aA rfl .c) (Y.nt (Y.ret (Y.m ?_))))))
 refine Y.j (aT rfl .z) .n ?_
 exact⟨by first |(rw [rT (by assumption)];done) |(rw [rW (by assumption) (by assumption)];done) |(rw [rQ (by assumption) (by assumption) (by omega)];done) |(rw [rN (by assumption) (by assumption) (by omega)];done),rfl⟩
 refine Y.skip (Y.g (Y.seq (Y.seq (Y.region (Y.mv rfl .g10 (Y.nc rfl .z (Y.fa rfl .z aP (Y.le rfl bO .z ba bc ?_))))))))
 refine Y.mv rfl .g15 ?_
 obtain⟨bo,ab,ac⟩:=aa (by omega)
 subst ab
 obtain⟨x7,af⟩:=aJ (xs:=f.inodes) (j:=Int.toNat a) (by omega)
 obtain⟨bj,ak,al,am⟩:=ac.elem af
 obtain⟨a4,a5,rfl,ad,ae⟩:=bV ak
 obtain⟨a6,a7,rfl,an,ao,ap,aq⟩:=aD ad
 obtain⟨a8,a9,rfl,ar,au,av,aw⟩:=aD ae
 have bp:=cZ (i:=a) af (by omega)
 have bq:=dD (a:=a) af (by omega)
 have bk:=dI aj _ (List.mem_of_getElem? af)
 refine Y.ql rfl (aB (j:=Int.toNat a) rfl cI aU (.t .g1) (.t .z) (by omega) (by omega)) ?_
 refine Y.fa rfl .z bW (Y.le rfl bR .z al am (Y.ql rfl (cC rfl (.t .z) .c) (Y.nt ?_)))
 refine Y.ad (.t .z) (fun bm=> ?_) (fun bm=> ?_)
 refine Y.seq (Y.region (Y.er (.s16 .g2) (Y.ql rfl (aA rfl .c) (Y.nt (Y.ret (Y.m ?_))))))
 refine Y.j (aT rfl .z) .n ?_
 exact⟨by first |(rw [rT (by assumption)];done) |(rw [rW (by assumption) (by assumption)];done) |(rw [rQ (by assumption) (by assumption) (by omega)];done) |(rw [rN (by assumption) (by assumption) (by omega)];done),rfl⟩
 refine Y.skip (Y.g (Y.seq (Y.region (Y.er (.s16 .g2) (Y.ql rfl (aA rfl .c) (Y.nt (Y.ret ?_)))))))
 refine Y.j (aT rfl .z) .n ?_
 exact⟨by first |(rw [rT (by assumption)];done) |(rw [rW (by assumption) (by assumption)];done) |(rw [rQ (by assumption) (by assumption) (by omega)];done) |(rw [rN (by assumption) (by assumption) (by omega)];done),rfl⟩

theorem sD {w0:World}{S0:Bs}{es:(List bT)}{v0:Value} (h0:dL.ro w0 (FF w0 S0) es [v0]) (s:ByteArray) (aj:s.size≤140737488351232):
    Calls Tryz.prog 127 #[v0,.string s] w0 (aI w0 S0 (fun r l=>r= .int .i64 (fC (dG s) es)∧l= [])):=by
 obtain⟨A0,c0,rfl,ak,al,am,ah⟩:=aD h0
 refine Y.enter (N:=20) Tryz.func127 rfl rfl (by simp) [(0,.slice A0 es.length c0),(1,.string s)] (by simp) (l0:= []) trivial ?_
 refine Y.seq (Y.region (Y.ql rfl (aA rfl .c) (Y.nt (Y.seq (Y.seq (Y.region (Y.ql rfl (aA rfl .c) ?_)))))))
 refine Y.nt (Y.block ?_)
 refine Y.ah (γ:=Nat) (fun k=> [(5,.int .i64 (k:Int)),(0,.slice A0 es.length c0),(1,.string s)]) (fun k=> []) (fun k=>k≤es.length∧∀j e,j<k→es[j]? =some e→dG s e=false) (fun k=>es.length - k) 0 ⟨Nat.zero_le _,eR (q:=fun _ e=>dG s e=false)⟩ (.c .z (.c .g2 (.c .g3 .n))) (fun _ h=>h) ?_
 rintro k ⟨hk,hallk⟩
 refine Y.seq (Y.seq (Y.region (Y.mv rfl .z (Y.mv rfl .g2 (Y.ql rfl (bE rfl dQ (.t .z)) (Y.ql rfl (cU rfl (.t .g2) (.t .z)) (Y.nt ?_)))))))
 refine Y.u (.t .z) (fun b2=> ?_) (fun b2=> ?_)
 refine Y.skip (Y.g (Y.seq (Y.block (Y.seq (Y.region (Y.mv rfl .g5 (Y.mv rfl .g5 ?_)))))))
 obtain⟨an,aa,ab⟩:=ah (by omega)
 subst aa
 obtain⟨x4,ac⟩:=aJ (xs:=es) (j:=k) (by omega)
 obtain⟨ai,ad,ae,af⟩:=ab.elem ac
 obtain⟨rfl,ag⟩:=fF ad
 refine Y.ql rfl (aB (j:=k) rfl dQ fS (.t .g1) (.t .z) rfl (by omega)) ?_
 refine Y.fa rfl .z mU (Y.le rfl kP .z ae af (Y.mv rfl .g11 (Y.ql rfl (tV rfl (.t .g1) (.t .z)) (Y.nt ?_))))
 refine Y.u (.t .z) (fun b6=> ?_) (fun b6=> ?_)
 refine Y.seq (Y.region (Y.mv rfl .g11 (Y.as rfl .z (Y.nt (Y.ret (Y.v (Y.m ?_)))))))
 refine Y.m (Y.v (Y.m ?_))
 refine Y.j (aT rfl .z) .n ?_
 exact⟨by rw [rM ac (decide_eq_true (by assumption)) hallk],rfl⟩
 refine Y.skip (Y.y (Y.g (Y.region (Y.mv rfl .g11 ?_))))
 refine Y.ql rfl (bG (c:=((k+1:Nat):Int)) rfl (.t .z) .c (wr (by omega) (by omega) (by omega))) ?_
 refine Y.er .g13 (Y.as rfl .z (Y.nil ?_))
 refine Y.ae (k+1) ⟨by omega,dY (q:=fun _ e=>dG s e=false) hallk ac (decide_eq_false (by assumption))⟩ (by first | omega |(dsimp only;omega)) (.c .z (.c .g14 (.c .g15 .n))) (fun _ h=>h)
 refine Y.exit (Y.w (Y.w (Y.ag (Y.g (Y.seq (Y.region (Y.ql rfl (aA rfl .c) (Y.nil ?_))))))))
 refine Y.g (Y.ret ?_)
 refine Y.j (aT rfl .z) .n ?_
 exact⟨by rw [rP (fun j x hx=>hallk j x (by have:=(List.getElem?_eq_some_iff.1 hx).1;omega) hx)],rfl⟩

theorem aKm {w0:World}{S0:Bs}{f:DFs}{bo:List Value} (h0:eS.ro w0 (FF w0 S0) f bo) (a:Int):
    Calls Tryz.prog 180 #[.agg bo.toArray,.int .i64 a] w0 (aI w0 S0 (aK3 (tS f a))):=by
 obtain⟨b3,b4,rfl,ar,au⟩:=cQ h0
 obtain⟨av,ag,rfl,bp,bq,br,aw⟩:=aD ar
 obtain⟨ah,ai,rfl,bs,bt,bu,bv⟩:=aD au
 refine Y.enter (N:=42) Tryz.func180 rfl rfl (by simp) [(0,.agg #[.slice av f.inodes.length ag,.slice ah f.data.length ai]),(1,.int .i64 a)] (by simp) (l0:= []) trivial ?_
 refine Y.seq (Y.region ?_)
 refine Y.el rfl (fR (cs:= [.slice av f.inodes.length ag,.slice ah f.data.length ai]) (n:=2) rfl (.t .z) rfl rfl) ?_
 rintro _ _ ⟨g3,rfl,rfl⟩
 refine Y.el rfl (bD rfl aJ4 rfl rfl) ?_
 rintro _ _ ⟨g4,rfl,rfl⟩
 refine Y.nt (Y.seq (Y.seq (Y.region (Y.mv rfl .g3 ?_))))
 refine Y.cl rfl rfl Tryz.func125 rfl rfl (aR (.t .g2) (.t .z)) .n (fun _ _ hs tr=>aL2 (tr.ptr .g1 (aM f (tr.ctx ar) (tr.ctx au))) _) ?_
 rintro _ _ ⟨rfl,rfl⟩
 refine Y.r .n ?_
 refine Y.as rfl .z (Y.nt (Y.seq (Y.region (Y.mv rfl .z (Y.ql rfl (cC rfl (.t .z) .c) (Y.nt ?_))))))
 refine Y.ad (.t .z) (fun b5=> ?_) (fun b5=> ?_)
 refine Y.seq (Y.region (Y.mv rfl .g2 (Y.ql rfl (aZ (cs:= [.int .i64 (iT f a),.slice none 0 0]) rfl aI7 (pv1 (.t .z)) rfl) ?_)))
 refine Y.es (aE rfl) rfl (esW rfl (.t .g7) (.t .z) .z wW rfl rfl) ?_
 refine Y.nt (Y.ret (Y.m ?_))
 refine Y.add (c:=aG fJ [] [.slice none 0 0]) (fun w S=>aK w S none) ?_
 refine Y.j (dA rfl .g7 aG2 .g1 wW) (.c .z .n) ?_
 first |(rw [aA2 (by assumption)];exact⟨_,rfl,rfl⟩) |(rw [aA1 (by assumption)];exact⟨_,rfl,rfl⟩)
 have ax:=aMj b5
 have ba:=kC ax.1
 obtain⟨b6,b7⟩:=ax.2.1
 refine Y.skip (Y.g (Y.seq (Y.region (Y.ql rfl (aZ (cs:= [.int .i64 0,.slice none 0 0]) rfl aI7 pv0 rfl) ?_))))
 refine Y.el rfl (bD rfl aJ4 rfl rfl) ?_
 rintro _ _ ⟨g8,rfl,rfl⟩
 refine Y.es (aE rfl) rfl (esW rfl (.t .z) (.t .g1) .z wW rfl rfl) ?_
 refine Y.nt (Y.seq (Y.seq (Y.region (Y.ql rfl (aA rfl .c) (Y.nt (Y.block ?_))))))
 refine Y.add (c:=aG fJ [] [.slice none 0 0]) (fun w S=>aK w S none) ?_
 obtain⟨bb,aj,ak⟩:=aw (by omega)
 subst aj
 obtain⟨al,ac⟩:=aJ (xs:=f.inodes) (j:=Int.toNat a) (by omega)
 obtain⟨bw,ay,ae,af⟩:=ak.elem ac
 obtain⟨bc,bd,rfl,am,an⟩:=bV ay
 obtain⟨be,bf,rfl,a3,a4,a5,a6⟩:=aD am
 obtain⟨bg,bh,rfl,a7,a8,a9,ad⟩:=aD an
 have b8:=cZ (i:=a) ac (by omega)
 have bi:=dD (a:=a) ac (by omega)
 have az:=dI ba _ (List.mem_of_getElem? ac)
 refine Y.ah (γ:=Nat×(Option Addr)×Nat) (fun⟨k,aa,ab⟩=> [(7,.int .i64 (k:Int)),(6,.pointer (some ⟨g8,0,none⟩)),(4,.pointer (some ⟨g4,0,none⟩)),(2,.pointer (some ⟨g3,0,none⟩)),(1,.int .i64 a)]) (fun⟨k,aa,ab⟩=> [aG fJ (mS al.ents k) [.slice aa (mS al.ents k).length ab],bZ g8 65 2 1 [.int .i64 0,.slice aa (mS al.ents k).length ab],bZ g4 65 2 1 [.int .i64 0,.slice none 0 0],bZ g3 27 2 1 [.slice (some bb) f.inodes.length ag,.slice ah f.data.length ai]]) (fun⟨k,aa,ab⟩=>k≤al.ents.length) (fun⟨k,aa,ab⟩=>al.ents.length - k) (0,none,0) (Nat.zero_le _) (.c .z (.c .g1 (.c .g8 (.c .g9 (.c .g11 .n))))) (fun _ h=>h.sel (.c .z (.c .z (.c .z (.c .z .n))))) ?_
 rintro⟨k,aa,ab⟩ hk
 have hnl:=aBp (es:=al.ents) (k:=k)
 refine Y.seq (Y.seq (Y.region (Y.mv rfl .z (Y.fa rfl .g4 aP (Y.ld rfl bO .z .g3 (Y.mv rfl .g7 ?_))))))
 refine Y.ql rfl (aB (j:=Int.toNat a) rfl cI aU (.t .g1) (.t .z) (by omega) (by omega)) ?_
 refine Y.fa rfl .z bM (Y.le rfl eA .z ae af (Y.ql rfl (bE rfl dQ (.t .z)) (Y.ql rfl (cU rfl (.t .g7) (.t .z)) (Y.nt ?_))))
 refine Y.u (.t .z) (fun b9=> ?_) (fun b9=> ?_)
 refine Y.skip (Y.g (Y.seq (Y.block ?_)))
 refine Y.dr .g1 15 gB ?_
 refine Y.sc (qs 0 12++ [(12,false),(13,false),(14,true),(15,false)]) (by kernel_rfl) ?_
 refine Y.df rfl rfl .g1 .g10 zY (Y.dl rfl rfl .g1 aIp .z .z (Y.df rfl rfl .g1 .g14 aP (Y.dl rfl rfl .g1 bO .z .g2 (Y.dm rfl rfl .g1 (.s16 .g1) ?_))))
 refine Y.dk rfl rfl .g1 (aB (j:=Int.toNat a) rfl cI aU (.t .g1) (.t .z) (by omega) (by omega)) ?_
 refine Y.df rfl rfl .g1 .z bM (Y.de rfl rfl .g1 eA .z ae af (Y.dm rfl rfl .g1 (.s16 .g1) ?_))
 obtain⟨ca,ao,ap⟩:=ad (by omega)
 subst ao
 obtain⟨bj,aq⟩:=aJ (xs:=al.ents) (j:=k) (by omega)
 obtain⟨bx,a0,a1,a2⟩:=ap.elem aq
 obtain⟨rfl,bk⟩:=fF a0
 have bz:=pT az _ _ aq
 refine Y.dk rfl rfl .g1 (aB (j:=k) rfl dQ fS (.t .g1) (.t .z) rfl (by omega)) ?_
 refine Y.df rfl rfl .g1 .z mU (Y.de rfl rfl .g1 kP .z a1 a2 ?_)
 refine Y.e (aC rfl rfl) rfl (by decide) rfl (aO (cs:= [.string bj.name]) rfl jJ (inz mX) (by decide) (pv1 (.t .z)) rfl rfl (by decide) rfl rfl) ?_
 rintro _ _ ⟨g19,rfl,rfl⟩
 refine Y.sk .g2 ?_
 refine Y.add (c:=aG uZ bj.name [.string bj.name]) (fun _ _=>⟨rfl,by assumption⟩) ?_
 refine Y.e (aC rfl rfl) rfl (by decide) rfl (dC rfl jJ mX rfl (.t .g11) (.t .z) (.c .g2 (.c .g1 (.c .z .n))) (by first | omega |(simp only [List.length_append,List.length_take,List.length_nil,List.length_cons];omega)) (by first | omega |(simp only [List.length_append,List.length_take,List.length_nil,List.length_cons];omega))) ?_
 rintro _ _ rfl
 refine Y.af .z (aE3 aq) ?_
 refine Y.i (WS.a .z) ?_
 rintro⟨bm,bn,rfl,b0,b1,b2⟩
 refine Y.sk .g1 ?_
 refine Y.df rfl rfl .g1 (.s16 .g8) zY ?_
 refine Y.es (aC rfl rfl) rfl (es1 (off:=1) rfl aKw (.t .z) (.t .g1) rfl rfl .g1 rfl .g1) ?_
 refine Y.sl rfl ?_
 refine Y.aa ?_
 refine Y.ai (by kernel_rfl) ?_
 refine Y.y (Y.g (Y.region (Y.mv rfl (.s16 .g8) ?_)))
 refine Y.ql rfl (bG (c:=((k+1:Nat):Int)) rfl (.t .z) .c (wr (by omega) (by omega) (by omega))) ?_
 refine Y.er (.s16 .g10) (Y.as rfl .z (Y.nil ?_))
 refine Y.ae ((k+1),bm,bn) (by omega) (by first | omega |(dsimp only;omega)) (.c .z (.c (.s16 .g11) (.c (.s16 .g12) (.c (.s16 .g13) (.c (.s16 .g14) .n))))) (fun _ h=>h.sel (.c .g1 (.c .z (.c .z (.c .z .n)))))
 refine Y.exit (Y.w (Y.w (Y.ag (Y.g (Y.seq (Y.region (Y.ql rfl (qW rfl aG2 (.t .g10) .g1 wW) ?_)))))))
 refine Y.es (aE rfl) rfl (esW rfl (.t .g12) (.t .z) .g2 wW rfl rfl) ?_
 refine Y.nt (Y.ret ?_)
 refine Y.af (x':=tI (aH f.inodes a)) .g1 (by rw [bi];exact aAs (by omega)) ?_
 refine Y.j (dA rfl .g12 aG2 .g1 wW) (.c .z .n) ?_
 first |(rw [aA2 (by assumption)];exact⟨_,rfl,rfl⟩) |(rw [aA1 (by assumption)];exact⟨_,rfl,rfl⟩)

end Go.Proofs.YtmejbfmhaoilmaaGreat

/- What is proved: the row 'FnNames'. No condition. -/
import Derived.Test.YtmejbfmhaoilmaaGreatRows
import Derived.Test.YtmejbfmhaoilmaaGreatKo
import Derived.Test.YtmejbfmhaoilmaaGreatKFnNames
import Derived.WalkKit
import Derived.ProofKit
import Derived.OpenShut
import Derived.ChangeOld
import Derived.Below
import Derived.SizedLaws
namespace Go.Proofs.YtmejbfmhaoilmaaGreat.fnNames
open Go Go.ChangeShapes Go.WideShapes Go.ChangeAt Go.RowKit
set_option linter.unusedVariables false
set_option linter.unusedSimpArgs false
theorem own:ownKnob Tryz.prog.godebug=none:=by kernel_rfl
theorem aM6:laidOutB Tryz.prog=true:=by kernel_rfl
set_option maxRecDepth 100000 in
theorem aKr (os:Os) (started:os.Started) (H:Type) (enc:TypeId×Value→H):
    ReturnsInHanded {} Tryz.checked os 7 .any (Rows.fnNamesSpec.pre6 enc Tryz.prog Tryz.f7 Rows.fnNamesRow.domain false) (Rows.fnNamesSpec.post enc Tryz.prog Tryz.f7 false true false false):=by
  refine returnsInHanded_of_change_sized (C := Tryz.checked) own started (by kernel_rfl) Tryz.func7
    (ChangeSpec.witness6 (enc:=enc) (C:=Tryz.checked) false ⟨#[], #[.slice none 0 0],[]⟩ 8 (by kernel_rfl) (by kernel_rfl) (by kernel_rfl) (by kernel_rfl)) ?_
  intro W base args ds gs before hval0 hW hcnd hsz0 _
  have hval:∀(j:Nat) t v,Tryz.f7.params[j]? =some t→args[j]? =some v→Value.okWide Tryz.prog W .any base t v:=hval0
  have hW':=hW
  obtain⟨p,q,hA0,hV,rfl,hfz,hnd⟩:=hW
  have hA:DataW.TrodAll enc Tryz.prog W 0 (fun _=>true) true Tryz.f7.params.toList args.toList ds p:=hA0
  rw [Tryz.params7] at hA hval
  obtain⟨v0,vs0,d0,ds0,p0,q0,hargs,rfl,rfl,h0,r0⟩:=trodAll_cons hA
  obtain⟨rfl,rfl,rfl⟩:=trodAll_nil r0
  obtain rfl:args= #[v0]:=by cases args;simp_all
  obtain⟨rfl,rfl⟩:=trodVars_none hV
  have hsz:(DataW.weightsEach Tryz.prog [22] [d0]).all (· ≤reachBytes)=true:=hsz0
  obtain⟨z0,hsz0⟩:=aFn hsz
  obtain⟨x0,k0⟩:=Ko.g aL4 h0 z0 (okWide_slice gV (hval 0 22 v0 rfl rfl))
  refine(aJi (c_7 k0)).mono fun e W' ⟨he,bel⟩=> ?_
  subst he
  exact⟨_,rfl,_,_,_,[],_,[],hW',trodAll_mk1 (shut_bool Tryz.underlying4 _),(trodAll_cons_mk (Below.trod aM6 (by kernel_rfl) (of_decide_eq_true (by kernel_rfl)) h0 bel (fun x hx=>hW'.lt x (by simp [hx]))) trodAll_mk0),rfl,bel.frame _,fun h=>by cases h⟩
theorem lI {a b:Bool} (h:a=true) (k:b=true):(a && b)=true:=by rw [h,k];rfl
set_option maxHeartbeats 40000000 in
theorem aEh:joinedFacts Tryz.prog 7 Tryz.f7 Rows.fnNamesSpec Rows.fnNamesRow=true:=by
  unfold joinedFacts
  refine(lI (lI (lI (lI (lI (lI (lI (lI (lI (lI (lI (lI (lI (lI (lI (lI (lI (lI (lI (lI (lI (lI (lI (lI (lI (lI (lI (lI (lI (lI (lI ?_ ?_) ?_) ?_) ?_) ?_) ?_) ?_) ?_) ?_) ?_) ?_) ?_) ?_) ?_) ?_) ?_) ?_) ?_) ?_) ?_) ?_) ?_) ?_) ?_) ?_) ?_) ?_) ?_) ?_) ?_) ?_)
  all_goals (as_aux_lemma=>kernel_rfl)
theorem aKt:Rows.fnNamesRow.holds Tryz.pinned (OpenSpec.ofChange Rows.fnNamesSpec):=
  OpenClaim.holds_of_wide 7 Tryz.f7 rfl rfl rfl rfl rfl rfl rfl ⟨rfl, rfl, rfl, rfl, rfl⟩ rfl rfl rfl rfl rfl (by kernel_rfl) Tryz.func7 aEh
    (of_decide_eq_true (by kernel_rfl)) (by unfold Func.isWrapper;first |(rw [if_pos (by decide+kernel)];kernel_rfl) |(rw [if_neg (by decide+kernel)];exact⟨rfl,rfl⟩))
    (fun os started H enc _=>aKr os started H enc)
theorem proved:Rows.FnNamesSaid:=aKt
#print axioms proved
end Go.Proofs.YtmejbfmhaoilmaaGreat.fnNames
namespace Go.Proofs.YtmejbfmhaoilmaaGreat
theorem fnNames_holds:Rows.FnNamesSaid:=fnNames.proved
end Go.Proofs.YtmejbfmhaoilmaaGreat

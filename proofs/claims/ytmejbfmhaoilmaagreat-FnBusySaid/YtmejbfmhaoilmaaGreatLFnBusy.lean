/- What is proved: the row 'FnBusy'. No condition. -/
import Derived.Test.YtmejbfmhaoilmaaGreatRows
import Derived.Test.YtmejbfmhaoilmaaGreatKo
import Derived.Test.YtmejbfmhaoilmaaGreatKFnBusy
import Derived.WalkKit
import Derived.ProofKit
import Derived.OpenShut
import Derived.ChangeOld
import Derived.Below
import Derived.SizedLaws
namespace Go.Proofs.YtmejbfmhaoilmaaGreat.fnBusy
open Go Go.ChangeShapes Go.WideShapes Go.ChangeAt Go.RowKit
set_option linter.unusedVariables false
set_option linter.unusedSimpArgs false
theorem own:ownKnob Tryz.prog.godebug=none:=by kernel_rfl
theorem aLp:laidOutB Tryz.prog=true:=by kernel_rfl
set_option maxRecDepth 100000 in
theorem aJx (os:Os) (started:os.Started) (H:Type) (enc:TypeId×Value→H):
    ReturnsInHanded {} Tryz.checked os 6 .any (Rows.fnBusySpec.pre6 enc Tryz.prog Tryz.f6 Rows.fnBusyRow.domain false) (Rows.fnBusySpec.post enc Tryz.prog Tryz.f6 false true false false):=by
  refine returnsInHanded_of_change_sized (C := Tryz.checked) own started (by kernel_rfl) Tryz.func6
    (ChangeSpec.witness6 (enc:=enc) (C:=Tryz.checked) false ⟨#[], #[.slice none 0 0],[]⟩ 8 (by kernel_rfl) (by kernel_rfl) (by kernel_rfl) (by kernel_rfl)) ?_
  intro W base args ds gs before hval0 hW hcnd hsz0 _
  have hval:∀(j:Nat) t v,Tryz.f6.params[j]? =some t→args[j]? =some v→Value.okWide Tryz.prog W .any base t v:=hval0
  have hW':=hW
  obtain⟨p,q,hA0,hV,rfl,hfz,hnd⟩:=hW
  have hA:DataW.TrodAll enc Tryz.prog W 0 (fun _=>true) true Tryz.f6.params.toList args.toList ds p:=hA0
  rw [Tryz.params6] at hA hval
  obtain⟨v0,vs0,d0,ds0,p0,q0,hargs,rfl,rfl,h0,r0⟩:=trodAll_cons hA
  obtain⟨rfl,rfl,rfl⟩:=trodAll_nil r0
  obtain rfl:args= #[v0]:=by cases args;simp_all
  obtain⟨rfl,rfl⟩:=trodVars_none hV
  have hsz:(DataW.weightsEach Tryz.prog [22] [d0]).all (· ≤reachBytes)=true:=hsz0
  obtain⟨z0,hsz0⟩:=aEm hsz
  obtain⟨x0,k0⟩:=Ko.g aMa h0 z0 (okWide_slice fO (hval 0 22 v0 rfl rfl))
  refine(aIh (c_6 k0)).mono fun e W' ⟨he,bel⟩=> ?_
  subst he
  exact⟨_,rfl,_,_,_,[],_,[],hW',trodAll_mk1 (shut_bool Tryz.underlying4 _),(trodAll_cons_mk (Below.trod aLp (by kernel_rfl) (of_decide_eq_true (by kernel_rfl)) h0 bel (fun x hx=>hW'.lt x (by simp [hx]))) trodAll_mk0),rfl,bel.frame _,fun h=>by cases h⟩
theorem lL {a b:Bool} (h:a=true) (k:b=true):(a && b)=true:=by rw [h,k];rfl
set_option maxHeartbeats 40000000 in
theorem aEg:joinedFacts Tryz.prog 6 Tryz.f6 Rows.fnBusySpec Rows.fnBusyRow=true:=by
  unfold joinedFacts
  refine(lL (lL (lL (lL (lL (lL (lL (lL (lL (lL (lL (lL (lL (lL (lL (lL (lL (lL (lL (lL (lL (lL (lL (lL (lL (lL (lL (lL (lL (lL (lL ?_ ?_) ?_) ?_) ?_) ?_) ?_) ?_) ?_) ?_) ?_) ?_) ?_) ?_) ?_) ?_) ?_) ?_) ?_) ?_) ?_) ?_) ?_) ?_) ?_) ?_) ?_) ?_) ?_) ?_) ?_) ?_)
  all_goals (as_aux_lemma=>kernel_rfl)
theorem aJv:Rows.fnBusyRow.holds Tryz.pinned (OpenSpec.ofChange Rows.fnBusySpec):=
  OpenClaim.holds_of_wide 6 Tryz.f6 rfl rfl rfl rfl rfl rfl rfl ⟨rfl, rfl, rfl, rfl, rfl⟩ rfl rfl rfl rfl rfl (by kernel_rfl) Tryz.func6 aEg
    (of_decide_eq_true (by kernel_rfl)) (by unfold Func.isWrapper;first |(rw [if_pos (by decide+kernel)];kernel_rfl) |(rw [if_neg (by decide+kernel)];exact⟨rfl,rfl⟩))
    (fun os started H enc _=>aJx os started H enc)
theorem proved:Rows.FnBusySaid:=aJv
#print axioms proved
end Go.Proofs.YtmejbfmhaoilmaaGreat.fnBusy
namespace Go.Proofs.YtmejbfmhaoilmaaGreat
theorem fnBusy_holds:Rows.FnBusySaid:=fnBusy.proved
end Go.Proofs.YtmejbfmhaoilmaaGreat

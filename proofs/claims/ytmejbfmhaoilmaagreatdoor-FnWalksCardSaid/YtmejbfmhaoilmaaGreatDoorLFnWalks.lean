/- What is proved: the row 'FnWalks'. No condition. -/
import Derived.Test.YtmejbfmhaoilmaaGreatDoorRows
import Derived.Test.YtmejbfmhaoilmaaGreatDoorCards
import Derived.Test.YtmejbfmhaoilmaaGreatDoorTie
import Derived.Test.YtmejbfmhaoilmaaGreatDoorBase0
import Derived.LaidMore
import Derived.Lay
import Derived.SevenTiedAt
import Derived.Stop.Joined
import Derived.Test.YtmejbfmhaoilmaaGreatDoorPart0
import Derived.Test.YtmejbfmhaoilmaaGreatDoorKFnWalks
import Derived.WalkKit
import Derived.ProofKit
import Derived.OpenShut
import Derived.ChangeOld
import Derived.Below
import Derived.SizedLaws
namespace Go.Proofs.YtmejbfmhaoilmaaGreatDoor.fnWalks
open Go Go.ChangeShapes Go.WideShapes Go.ChangeAt Go.RowKit
set_option linter.unusedVariables false
set_option linter.unusedSimpArgs false
theorem own:ownKnob Tryz.prog.godebug=none:=by kernel_rfl
theorem laid:laidOutB Tryz.prog=true:=by kernel_rfl
set_option maxRecDepth 100000 in
theorem aLe (os:Os) (started:os.Started) (H:Type) (enc:TypeId×Value→H):
    ReturnsInHanded {} Tryz.checked os 3 .any (fun w args=>(Rows.fnWalksSpec.pre enc Tryz.prog Tryz.f3 Rows.fnWalksRow.domain false w args∧laidMetH Tryz.prog Rows.fnWalksRow.laid w)∧sizedMet enc Tryz.prog Tryz.f3 (OpenSpec.ofChange Rows.fnWalksSpec) false w args) (Rows.fnWalksSpec.post enc Tryz.prog Tryz.f3 false true false false):=by
  refine yO (C := Tryz.checked) (X := (fun w _ => laidMetH Tryz.prog Rows.fnWalksRow.laid w)) own started (by kernel_rfl) Tryz.func3
    (ChangeSpec.witness_shaped (enc := enc) (C := Tryz.checked) (os := os) (X := (fun w _ => laidMetH Tryz.prog Rows.fnWalksRow.laid w)) false (World.laidAll Tryz.prog os Rows.fnWalksRow.laid) #[.slice none 0 0] 8 (World.laidAll_os _ _ _)
      (World.shaped_of_ZipB (by kernel_rfl) (by kernel_rfl)) (by kernel_rfl) (by kernel_rfl) (by kernel_rfl)
      (by rw [MakeChecks.laidMetH_plain _ _ _ (by kernel_rfl)];exact laidMet_laidAll _ (by kernel_rfl) (by kernel_rfl))) ?_
  intro W base args ds gs before hval0 hW hsz0 shape
  have hval:∀(j:Nat) t v,Tryz.f3.params[j]? =some t→args[j]? =some v→Value.okWide Tryz.prog W .any base t v:=hval0
  have hW':=hW
  obtain⟨p,q,hA0,hV,rfl,hfz,hnd⟩:=hW
  have hA:DataW.TrodAll enc Tryz.prog W 0 (fun _=>true) true Tryz.f3.params.toList args.toList ds p:=hA0
  rw [Tryz.params3] at hA hval
  obtain⟨v0,vs0,d0,ds0,p0,q0,hargs,rfl,rfl,h0,r0⟩:=trodAll_cons hA
  obtain⟨rfl,rfl,rfl⟩:=trodAll_nil r0
  obtain rfl:args= #[v0]:=by cases args;simp_all
  obtain⟨rfl,rfl⟩:=trodVars_none hV
  have hsz:(DataW.weightsEach Tryz.prog [22] [d0]).all (· ≤reachBytes)=true:=hsz0
  obtain⟨z0,hsz0⟩:=aGl hsz
  obtain⟨x0,k0⟩:=Ko.g aMn h0 z0 (okWide_slice iJ (hval 0 22 v0 rfl rfl))
  refine(aJb (c_3 k0 (aJd shape))).mono fun e W' ⟨he,bel⟩=> ?_
  subst he
  exact⟨_,rfl,_,_,_,[],_,[],hW',trodAll_mk1 (shut_bool Tryz.underlying4 _),(trodAll_cons_mk (Below.trod laid (by kernel_rfl) (of_decide_eq_true (by kernel_rfl)) h0 bel (fun x hx=>hW'.lt x (by simp [hx]))) trodAll_mk0),rfl,bel.frame _,fun h=>by cases h⟩
theorem lG {a b:Bool} (h:a=true) (k:b=true):(a && b)=true:=by rw [h,k];rfl
set_option maxHeartbeats 40000000 in
theorem aEv:joinedFacts Tryz.prog 3 Tryz.f3 Rows.fnWalksSpec Rows.fnWalksRow=true:=by
  unfold joinedFacts
  refine(lG (lG (lG (lG (lG (lG (lG (lG (lG (lG (lG (lG (lG (lG (lG (lG (lG (lG (lG (lG (lG (lG (lG (lG (lG (lG (lG (lG (lG (lG (lG ?_ ?_) ?_) ?_) ?_) ?_) ?_) ?_) ?_) ?_) ?_) ?_) ?_) ?_) ?_) ?_) ?_) ?_) ?_) ?_) ?_) ?_) ?_) ?_) ?_) ?_) ?_) ?_) ?_) ?_) ?_) ?_)
  all_goals (as_aux_lemma=>kernel_rfl)
theorem aKr:Rows.fnWalksRow.holds Tryz.pinned (OpenSpec.ofChange Rows.fnWalksSpec):=
  OpenClaim.holds_of_wide 3 Tryz.f3 rfl rfl rfl rfl rfl rfl rfl ⟨rfl, rfl, rfl, rfl, rfl⟩ rfl rfl rfl rfl rfl (by kernel_rfl) Tryz.func3 aEv
    (of_decide_eq_true (by kernel_rfl)) (by unfold Func.isWrapper;first |(rw [if_pos (by decide+kernel)];kernel_rfl) |(rw [if_neg (by decide+kernel)];exact⟨rfl,rfl⟩))
    (fun os started H enc _=>aLe os started H enc)
theorem proved:Rows.FnWalksCardSaid:=
  Claim7.holds_tied_plain_at .later [] [.data, .pinned] true (true, "fef252591d8f1dd9036cdc7ab6d67ae9cf790b36c7bbfdeb333922aeb2b56898") false aKr (fun _ h => by cases h) (by kernel_rfl) (fun _ h => by cases h) fnWalks_row_tie rfl ⟨rfl, rfl⟩ (by kernel_rfl) rfl
    (fun f fn hf hfn=>by
      obtain rfl:f=3:=Option.some.inj ((show Tryz.prog.funcNamed Rows.fnWalksRow.func=some 3 by kernel_rfl).symm.trans hf) |>.symm
      obtain rfl:fn=Tryz.f3:=(Option.some.inj (Tryz.func3.symm.trans hfn)).symm
      exact⟨by kernel_rfl,fun j t ht=>by
        rw [Tryz.params3] at ht
        have hm:t∈ [22]:=by simpa using Array.mem_of_getElem? ht
        have hall:([22].all fun u=> !Tryz.prog.wantsStandIn u)=true:=by kernel_rfl
        exact(show Tryz.prog.wantsStandIn t=false by simpa using List.all_eq_true.1 hall t hm)⟩)
    (by kernel_rfl)
#print axioms proved
end Go.Proofs.YtmejbfmhaoilmaaGreatDoor.fnWalks
namespace Go.Proofs.YtmejbfmhaoilmaaGreatDoor
theorem fnWalks_holds:Rows.FnWalksCardSaid:=fnWalks.proved
end Go.Proofs.YtmejbfmhaoilmaaGreatDoor

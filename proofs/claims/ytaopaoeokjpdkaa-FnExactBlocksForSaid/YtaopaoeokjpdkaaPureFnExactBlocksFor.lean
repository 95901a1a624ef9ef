/- What is proved: the law FnExactBlocksFor returns true for every int64. No condition. -/
import Derived.Test.YtaopaoeokjpdkaaPFnExactBlocksForx1
namespace Go.Proofs.Ytaopaoeokjpdkaa.Pure
open Go.RowKit Go.Proofs.Ytaopaoeokjpdkaa.PFnExactBlocksFor Go.Proofs.YtaopaoeokjpdkaaW.PrintWords Go.Proofs.YtaopaoeokjpdkaaW.PrintLast

theorem within_l1In (a b c : Int) : impl_within.f a b c = spec_l1In.f a b c := rfl
theorem l1In_some (a b c : Int) : ∃ r, spec_l1In.f a b c = some r := by
  unfold spec_l1In.f; split <;> exact ⟨_, rfl⟩

theorem FnExactBlocksFor : laws_FnExactBlocksFor.Pure := by
  intro a _
  unfold laws_FnExactBlocksFor.f spec_BlocksFor.f impl_BlocksFor.f spec_l4Size.f
  rw [within_l1In]
  obtain ⟨r, hr⟩ := l1In_some a 0 32
  rw [hr]
  cases r <;> simp [spec_l4For.f, impl_blocksFor.f, laws_eqIntResult.f]

end Go.Proofs.Ytaopaoeokjpdkaa.Pure

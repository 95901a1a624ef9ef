/- What is proved: the law FnExactConstants returns true. No condition. -/
import Derived.Test.YtaopaoeokjpdkaaPFnExactConstantsx1
namespace Go.Proofs.Ytaopaoeokjpdkaa.Pure
open Go.RowKit Go.Proofs.Ytaopaoeokjpdkaa.PFnExactConstants Go.Proofs.YtaopaoeokjpdkaaW.PrintWords Go.Proofs.YtaopaoeokjpdkaaW.PrintLast

theorem FnExactConstants : laws_FnExactConstants.Pure := by
  unfold laws_FnExactConstants.Pure laws_FnExactConstants.f; rfl

end Go.Proofs.Ytaopaoeokjpdkaa.Pure

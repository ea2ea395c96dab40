/- The one plain statement to which the law FnExactAreProbes comes down. -/
import Derived.Test.YtlghphhkbobhiaaZ11
import Derived.Test.YtlghphhkbobhiaaZOk
namespace Go.Proofs.Ytlghphhkbobhiaa.Z
open Go.RowKit Go.Proofs.YtlghphhkbobhiaaW.PrintWords Go.Proofs.YtlghphhkbobhiaaW.PrintLast Go.Proofs.YtlghphhkbobhiaaW.PrintMore
set_option linter.unusedVariables false
def laws_FnExactAreProbes.Pure : Prop := ∀ (a0_0 : Int) (l0_1 : List (S116)) (l1 : List (S101)), okS31 (⟨a0_0, l0_1⟩ : S31) → (ZOpen.okL okS101) l1 → ∃ k, laws_FnExactAreProbes.f k a0_0 l0_1 l1 = some true
end Go.Proofs.Ytlghphhkbobhiaa.Z

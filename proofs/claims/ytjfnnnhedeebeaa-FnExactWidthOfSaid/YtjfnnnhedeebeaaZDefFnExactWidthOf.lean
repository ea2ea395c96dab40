/- The one plain statement to which the law FnExactWidthOf comes down. -/
import Derived.Test.YtjfnnnhedeebeaaZ1
import Derived.Test.YtjfnnnhedeebeaaZOk
namespace Go.Proofs.Ytjfnnnhedeebeaa.Z
open Go.RowKit Go.Proofs.YtjfnnnhedeebeaaW.PrintWords Go.Proofs.YtjfnnnhedeebeaaW.PrintLast Go.Proofs.YtjfnnnhedeebeaaW.PrintMore
set_option linter.unusedVariables false
def laws_FnExactWidthOf.Pure : Prop := ∀ (a0_0 : Int) (a0_1 : Int), okS23 (⟨a0_0, a0_1⟩ : S23) → laws_FnExactWidthOf.f a0_0 a0_1 = some true
end Go.Proofs.Ytjfnnnhedeebeaa.Z

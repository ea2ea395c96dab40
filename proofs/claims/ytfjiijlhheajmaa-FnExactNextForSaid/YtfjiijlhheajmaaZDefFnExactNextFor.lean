/- The one plain statement to which the law FnExactNextFor comes down. -/
import Derived.Test.YtfjiijlhheajmaaZ6
import Derived.Test.YtfjiijlhheajmaaZOk
namespace Go.Proofs.Ytfjiijlhheajmaa.Z
open Go.RowKit Go.Proofs.YtfjiijlhheajmaaW.PrintWords Go.Proofs.YtfjiijlhheajmaaW.PrintLast Go.Proofs.YtfjiijlhheajmaaW.PrintMore
set_option linter.unusedVariables false
def laws_FnExactNextFor.Pure : Prop := ∀ (a0_0 : Int) (l0_1 : List Int) (a1 : Int), okS24 (⟨a0_0, l0_1⟩ : S24) → (ZOpen.okI .i64) a1 → ∃ k, laws_FnExactNextFor.f k a0_0 l0_1 a1 = some true
end Go.Proofs.Ytfjiijlhheajmaa.Z

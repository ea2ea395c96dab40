/- The one plain statement to which the law FnExactIsBranch comes down. -/
import Derived.Test.YtfjiijlhheajmaaZ5
import Derived.Test.YtfjiijlhheajmaaZOk
namespace Go.Proofs.Ytfjiijlhheajmaa.Z
open Go.RowKit Go.Proofs.YtfjiijlhheajmaaW.PrintWords Go.Proofs.YtfjiijlhheajmaaW.PrintLast Go.Proofs.YtfjiijlhheajmaaW.PrintMore
set_option linter.unusedVariables false
def laws_FnExactIsBranch.Pure : Prop := ∀ (a0_0 : Int) (l0_1 : List Int), okS24 (⟨a0_0, l0_1⟩ : S24) → ∃ k, laws_FnExactIsBranch.f k a0_0 l0_1 = some true
end Go.Proofs.Ytfjiijlhheajmaa.Z

/- The one plain statement to which the law FnExactSetsOf comes down. -/
import Derived.Test.YtgaajmmbodfahaaZ8
import Derived.Test.YtgaajmmbodfahaaZOk
namespace Go.Proofs.Ytgaajmmbodfahaa.Z
open Go.RowKit Go.Proofs.YtgaajmmbodfahaaW.PrintWords Go.Proofs.YtgaajmmbodfahaaW.PrintLast Go.Proofs.YtgaajmmbodfahaaW.PrintMore
set_option linter.unusedVariables false
def laws_FnExactSetsOf.Pure : Prop := ∀ (a0 : Int) (a1 : Int), (ZOpen.okI .i64) a0 → (ZOpen.okI .i64) a1 → ∃ k, laws_FnExactSetsOf.f k a0 a1 = some true
end Go.Proofs.Ytgaajmmbodfahaa.Z

/- The one plain statement to which the law FnExactTwinsOf comes down. -/
import Derived.Test.YtgaajmmbodfahaaZ7
import Derived.Test.YtgaajmmbodfahaaZOk
namespace Go.Proofs.Ytgaajmmbodfahaa.Z
open Go.RowKit Go.Proofs.YtgaajmmbodfahaaW.PrintWords Go.Proofs.YtgaajmmbodfahaaW.PrintLast Go.Proofs.YtgaajmmbodfahaaW.PrintMore
set_option linter.unusedVariables false
def laws_FnExactTwinsOf.Pure : Prop := ∀ (l0 : List (List Int)) (a1 : Int), (ZOpen.okL (ZOpen.okL (ZOpen.okI .i64))) l0 → (ZOpen.okI .i64) a1 → ∃ k, laws_FnExactTwinsOf.f k l0 a1 = some true
end Go.Proofs.Ytgaajmmbodfahaa.Z

/- The one plain statement to which the law FnExactLinkOf comes down. -/
import Derived.Test.YtghippahfkjhhaaZ15
import Derived.Test.YtghippahfkjhhaaZOk
namespace Go.Proofs.Ytghippahfkjhhaa.Z
open Go.RowKit Go.Proofs.YtghippahfkjhhaaW.PrintWords Go.Proofs.YtghippahfkjhhaaW.PrintLast Go.Proofs.YtghippahfkjhhaaW.PrintMore
set_option linter.unusedVariables false
def laws_FnExactLinkOf.Pure : Prop := ∀ (a0_0 : Int) (l0_1 : List (S92)) (a1 : Int) (a2 : Int), okS38 (⟨a0_0, l0_1⟩ : S38) → (ZOpen.okI .i64) a1 → (ZOpen.okI .i64) a2 → ∃ k, laws_FnExactLinkOf.f k a0_0 l0_1 a1 a2 = some true
end Go.Proofs.Ytghippahfkjhhaa.Z

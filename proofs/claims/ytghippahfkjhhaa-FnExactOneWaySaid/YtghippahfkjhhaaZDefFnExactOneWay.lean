/- The one plain statement to which the law FnExactOneWay comes down. -/
import Derived.Test.YtghippahfkjhhaaZ10
import Derived.Test.YtghippahfkjhhaaZOk
namespace Go.Proofs.Ytghippahfkjhhaa.Z
open Go.RowKit Go.Proofs.YtghippahfkjhhaaW.PrintWords Go.Proofs.YtghippahfkjhhaaW.PrintLast Go.Proofs.YtghippahfkjhhaaW.PrintMore
set_option linter.unusedVariables false
def laws_FnExactOneWay.Pure : Prop := ∀ (a0 : Int) (a1 : Int) (a2_0 : Int) (a2_1 : Int), (ZOpen.okI .i64) a0 → (ZOpen.okI .i64) a1 → okS29 (⟨a2_0, a2_1⟩ : S29) → ∃ k, laws_FnExactOneWay.f k a0 a1 a2_0 a2_1 = some true
end Go.Proofs.Ytghippahfkjhhaa.Z

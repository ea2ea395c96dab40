/- The one plain statement to which the law FnExactUnitRow comes down. -/
import Derived.Test.YtghippahfkjhhaaZ7
import Derived.Test.YtghippahfkjhhaaZOk
namespace Go.Proofs.Ytghippahfkjhhaa.Z
open Go.RowKit Go.Proofs.YtghippahfkjhhaaW.PrintWords Go.Proofs.YtghippahfkjhhaaW.PrintLast Go.Proofs.YtghippahfkjhhaaW.PrintMore
set_option linter.unusedVariables false
def laws_FnExactUnitRow.Pure : Prop := ∀ (a0 : Int) (a1 : Int), (ZOpen.okI .i64) a0 → (ZOpen.okI .i64) a1 → ∃ k, laws_FnExactUnitRow.f k a0 a1 = some true
end Go.Proofs.Ytghippahfkjhhaa.Z

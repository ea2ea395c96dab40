/- The one plain statement to which the law FnExactAloneOn comes down. -/
import Derived.Test.YtghippahfkjhhaaZ33
import Derived.Test.YtghippahfkjhhaaZOk
namespace Go.Proofs.Ytghippahfkjhhaa.Z
open Go.RowKit Go.Proofs.YtghippahfkjhhaaW.PrintWords Go.Proofs.YtghippahfkjhhaaW.PrintLast Go.Proofs.YtghippahfkjhhaaW.PrintMore
set_option linter.unusedVariables false
def laws_FnExactAloneOn.Pure : Prop := ∀ (l0 : List (S105)) (a1 : Int), (ZOpen.okL okS105) l0 → (ZOpen.okI .i64) a1 → ∃ k, laws_FnExactAloneOn.f k l0 a1 = some true
end Go.Proofs.Ytghippahfkjhhaa.Z

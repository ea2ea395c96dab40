/- The one plain statement to which the law FnExactGapsIn comes down. -/
import Derived.Test.YtghippahfkjhhaaZ24
import Derived.Test.YtghippahfkjhhaaZOk
namespace Go.Proofs.Ytghippahfkjhhaa.Z
open Go.RowKit Go.Proofs.YtghippahfkjhhaaW.PrintWords Go.Proofs.YtghippahfkjhhaaW.PrintLast Go.Proofs.YtghippahfkjhhaaW.PrintMore
set_option linter.unusedVariables false
def laws_FnExactGapsIn.Pure : Prop := ∀ (l0 : List (S99)), (ZOpen.okL okS99) l0 → ∃ k, laws_FnExactGapsIn.f k l0 = some true
end Go.Proofs.Ytghippahfkjhhaa.Z

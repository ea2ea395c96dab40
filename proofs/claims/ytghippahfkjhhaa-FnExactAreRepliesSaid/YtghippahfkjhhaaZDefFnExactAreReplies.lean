/- The one plain statement to which the law FnExactAreReplies comes down. -/
import Derived.Test.YtghippahfkjhhaaZ21
import Derived.Test.YtghippahfkjhhaaZOk
namespace Go.Proofs.Ytghippahfkjhhaa.Z
open Go.RowKit Go.Proofs.YtghippahfkjhhaaW.PrintWords Go.Proofs.YtghippahfkjhhaaW.PrintLast Go.Proofs.YtghippahfkjhhaaW.PrintMore
set_option linter.unusedVariables false
def laws_FnExactAreReplies.Pure : Prop := ∀ (l0 : List (S86)), (ZOpen.okL okS86) l0 → ∃ k, laws_FnExactAreReplies.f k l0 = some true
end Go.Proofs.Ytghippahfkjhhaa.Z

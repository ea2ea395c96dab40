/- The one plain statement to which the law FnExactMissingFor comes down. -/
import Derived.Test.YtcdlhjfiboomkaaZ9
import Derived.Test.YtcdlhjfiboomkaaZOk
namespace Go.Proofs.Ytcdlhjfiboomkaa.Z
open Go.RowKit Go.Proofs.YtcdlhjfiboomkaaW.PrintWords Go.Proofs.YtcdlhjfiboomkaaW.PrintLast Go.Proofs.YtcdlhjfiboomkaaW.PrintMore
set_option linter.unusedVariables false
def laws_FnExactMissingFor.Pure : Prop := ∀ (l0 : List (List Int)) (a1 : Int), (ZOpen.okL (ZOpen.okL (ZOpen.okI .i64))) l0 → (ZOpen.okI .i64) a1 → ∃ k, laws_FnExactMissingFor.f k l0 a1 = some true
end Go.Proofs.Ytcdlhjfiboomkaa.Z

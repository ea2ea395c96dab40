/- The one plain statement to which the law FnExactHasCircle comes down. -/
import Derived.Test.YtcdlhjfiboomkaaZ4
import Derived.Test.YtcdlhjfiboomkaaZOk
namespace Go.Proofs.Ytcdlhjfiboomkaa.Z
open Go.RowKit Go.Proofs.YtcdlhjfiboomkaaW.PrintWords Go.Proofs.YtcdlhjfiboomkaaW.PrintLast Go.Proofs.YtcdlhjfiboomkaaW.PrintMore
set_option linter.unusedVariables false
def laws_FnExactHasCircle.Pure : Prop := ∀ (l0 : List (S67)), (ZOpen.okL okS67) l0 → ∃ k, laws_FnExactHasCircle.f k l0 = some true
end Go.Proofs.Ytcdlhjfiboomkaa.Z

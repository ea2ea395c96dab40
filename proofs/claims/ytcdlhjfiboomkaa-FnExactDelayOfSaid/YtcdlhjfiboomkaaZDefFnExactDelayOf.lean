/- The one plain statement to which the law FnExactDelayOf comes down. -/
import Derived.Test.YtcdlhjfiboomkaaZ22
import Derived.Test.YtcdlhjfiboomkaaZOk
namespace Go.Proofs.Ytcdlhjfiboomkaa.Z
open Go.RowKit Go.Proofs.YtcdlhjfiboomkaaW.PrintWords Go.Proofs.YtcdlhjfiboomkaaW.PrintLast Go.Proofs.YtcdlhjfiboomkaaW.PrintMore
set_option linter.unusedVariables false
def laws_FnExactDelayOf.Pure : Prop := ∀ (l0 : List (List Int)) (l1 : List Int) (a2 : Int) (a3 : Int), (ZOpen.okL (ZOpen.okL (ZOpen.okI .i64))) l0 → l1.length ≤ maxLen → l1.length * 8 ≤ 140737488351232 → (∀ x ∈ l1, (Lit.int .i64 x).wf = true) → (ZOpen.okI .i64) a2 → (ZOpen.okI .i64) a3 → ∃ k, laws_FnExactDelayOf.f k l0 l1 a2 a3 = some true
end Go.Proofs.Ytcdlhjfiboomkaa.Z

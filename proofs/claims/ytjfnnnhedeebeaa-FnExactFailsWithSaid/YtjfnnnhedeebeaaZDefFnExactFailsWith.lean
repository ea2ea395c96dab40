/- The one plain statement to which the law FnExactFailsWith comes down. -/
import Derived.Test.YtjfnnnhedeebeaaZ7
import Derived.Test.YtjfnnnhedeebeaaZOk
namespace Go.Proofs.Ytjfnnnhedeebeaa.Z
open Go.RowKit Go.Proofs.YtjfnnnhedeebeaaW.PrintWords Go.Proofs.YtjfnnnhedeebeaaW.PrintLast Go.Proofs.YtjfnnnhedeebeaaW.PrintMore
set_option linter.unusedVariables false
def laws_FnExactFailsWith.Pure : Prop := ∀ (l0 : List Int) (l1 : List Int), l0.length ≤ maxLen → l0.length * 8 ≤ 140737488351232 → (∀ x ∈ l0, (Lit.int .i64 x).wf = true) → l1.length ≤ maxLen → l1.length * 8 ≤ 140737488351232 → (∀ x ∈ l1, (Lit.int .i64 x).wf = true) → ∃ k, laws_FnExactFailsWith.f k l0 l1 = some true
end Go.Proofs.Ytjfnnnhedeebeaa.Z

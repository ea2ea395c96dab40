/- The one plain statement to which the law FnExactProbesOf comes down. -/
import Derived.Test.YtcdlhjfiboomkaaZ15
import Derived.Test.YtcdlhjfiboomkaaZOk
namespace Go.Proofs.Ytcdlhjfiboomkaa.Z
open Go.RowKit Go.Proofs.YtcdlhjfiboomkaaW.PrintWords Go.Proofs.YtcdlhjfiboomkaaW.PrintLast Go.Proofs.YtcdlhjfiboomkaaW.PrintMore
set_option linter.unusedVariables false
def laws_FnExactProbesOf.Pure : Prop := ∀ (a0_0 : Int) (l0_1 : List (S67)) (l1 : List Int), okS24 (⟨a0_0, l0_1⟩ : S24) → l1.length ≤ maxLen → l1.length * 8 ≤ 140737488351232 → (∀ x ∈ l1, (Lit.int .i64 x).wf = true) → ∃ k, laws_FnExactProbesOf.f k a0_0 l0_1 l1 = some true
end Go.Proofs.Ytcdlhjfiboomkaa.Z

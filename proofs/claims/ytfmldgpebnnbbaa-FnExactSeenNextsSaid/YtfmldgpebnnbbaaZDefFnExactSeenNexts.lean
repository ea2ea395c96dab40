/- The one plain statement to which the law FnExactSeenNexts comes down. -/
import Derived.Test.YtfmldgpebnnbbaaZ8
import Derived.Test.YtfmldgpebnnbbaaZOk
namespace Go.Proofs.Ytfmldgpebnnbbaa.Z
open Go.RowKit Go.Proofs.YtfmldgpebnnbbaaW.PrintWords Go.Proofs.YtfmldgpebnnbbaaW.PrintLast Go.Proofs.YtfmldgpebnnbbaaW.PrintMore
set_option linter.unusedVariables false
def laws_FnExactSeenNexts.Pure : Prop := ∀ (a0_0 : Int) (l0_1 : List Int) (l1 : List Int), okS59 (⟨a0_0, l0_1⟩ : S59) → l1.length ≤ maxLen → l1.length * 8 ≤ 140737488351232 → (∀ x ∈ l1, (Lit.int .i64 x).wf = true) → ∃ k, laws_FnExactSeenNexts.f k a0_0 l0_1 l1 = some true
end Go.Proofs.Ytfmldgpebnnbbaa.Z

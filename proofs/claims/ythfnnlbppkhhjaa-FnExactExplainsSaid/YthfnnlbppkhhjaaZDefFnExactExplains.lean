/- The one plain statement to which the law FnExactExplains comes down. -/
import Derived.Test.YthfnnlbppkhhjaaZ30
import Derived.Test.YthfnnlbppkhhjaaZOk
namespace Go.Proofs.Ythfnnlbppkhhjaa.Z
open Go.RowKit Go.Proofs.YthfnnlbppkhhjaaW.PrintWords Go.Proofs.YthfnnlbppkhhjaaW.PrintLast Go.Proofs.YthfnnlbppkhhjaaW.PrintMore
set_option linter.unusedVariables false
def laws_FnExactExplains.Pure : Prop := ∀ (l0 : List (List Int)) (l1 : List Bool) (l2 : List Int), (ZOpen.okL (ZOpen.okL (ZOpen.okI .i64))) l0 → (ZOpen.okL ZOpen.okB) l1 → l2.length ≤ maxLen → l2.length * 8 ≤ 140737488351232 → (∀ x ∈ l2, (Lit.int .i64 x).wf = true) → ∃ k, laws_FnExactExplains.f k l0 l1 l2 = some true
end Go.Proofs.Ythfnnlbppkhhjaa.Z

/- The one plain statement to which the law FnExactEndOf comes down. -/
import Derived.Test.YthfnnlbppkhhjaaZ6
import Derived.Test.YthfnnlbppkhhjaaZOk
namespace Go.Proofs.Ythfnnlbppkhhjaa.Z
open Go.RowKit Go.Proofs.YthfnnlbppkhhjaaW.PrintWords Go.Proofs.YthfnnlbppkhhjaaW.PrintLast Go.Proofs.YthfnnlbppkhhjaaW.PrintMore
set_option linter.unusedVariables false
def laws_FnExactEndOf.Pure : Prop := ∀ (a0_0 : Int) (l0_1 : List (S98)) (l1 : List Int) (a2 : Int), okS43 (⟨a0_0, l0_1⟩ : S43) → l1.length ≤ maxLen → l1.length * 8 ≤ 140737488351232 → (∀ x ∈ l1, (Lit.int .i64 x).wf = true) → (ZOpen.okI .i64) a2 → ∃ k, laws_FnExactEndOf.f k a0_0 l0_1 l1 a2 = some true
end Go.Proofs.Ythfnnlbppkhhjaa.Z

/- The one plain statement to which the law FnExactAllowsDelays comes down. -/
import Derived.Test.YtlghphhkbobhiaaZ12
import Derived.Test.YtlghphhkbobhiaaZOk
namespace Go.Proofs.Ytlghphhkbobhiaa.Z
open Go.RowKit Go.Proofs.YtlghphhkbobhiaaW.PrintWords Go.Proofs.YtlghphhkbobhiaaW.PrintLast Go.Proofs.YtlghphhkbobhiaaW.PrintMore
set_option linter.unusedVariables false
def laws_FnExactAllowsDelays.Pure : Prop := ∀ (l0 : List (List Int)) (l1 : List (S96)) (l2 : List Int), (ZOpen.okL (ZOpen.okL (ZOpen.okI .i64))) l0 → (ZOpen.okL okS96) l1 → l2.length ≤ maxLen → l2.length * 8 ≤ 140737488351232 → (∀ x ∈ l2, (Lit.int .i64 x).wf = true) → ∃ k, laws_FnExactAllowsDelays.f k l0 l1 l2 = some true
end Go.Proofs.Ytlghphhkbobhiaa.Z

/- The one plain statement to which the law FnExactIsPath comes down. -/
import Derived.Test.YtlghphhkbobhiaaZ15
import Derived.Test.YtlghphhkbobhiaaZOk
namespace Go.Proofs.Ytlghphhkbobhiaa.Z
open Go.RowKit Go.Proofs.YtlghphhkbobhiaaW.PrintWords Go.Proofs.YtlghphhkbobhiaaW.PrintLast Go.Proofs.YtlghphhkbobhiaaW.PrintMore
set_option linter.unusedVariables false
def laws_FnExactIsPath.Pure : Prop := ∀ (a0_0 : Int) (l0_1 : List (S116)) (l1 : List Int) (a2 : Int) (a3 : Int), okS31 (⟨a0_0, l0_1⟩ : S31) → l1.length ≤ maxLen → l1.length * 8 ≤ 140737488351232 → (∀ x ∈ l1, (Lit.int .i64 x).wf = true) → (ZOpen.okI .i64) a2 → (ZOpen.okI .i64) a3 → ∃ k, laws_FnExactIsPath.f k a0_0 l0_1 l1 a2 a3 = some true
end Go.Proofs.Ytlghphhkbobhiaa.Z

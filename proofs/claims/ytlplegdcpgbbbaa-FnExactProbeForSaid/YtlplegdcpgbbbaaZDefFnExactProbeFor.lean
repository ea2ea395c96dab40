/- The one plain statement to which the law FnExactProbeFor comes down. -/
import Derived.Test.YtlplegdcpgbbbaaZ11
import Derived.Test.YtlplegdcpgbbbaaZOk
namespace Go.Proofs.Ytlplegdcpgbbbaa.Z
open Go.RowKit Go.Proofs.YtlplegdcpgbbbaaW.PrintWords Go.Proofs.YtlplegdcpgbbbaaW.PrintLast Go.Proofs.YtlplegdcpgbbbaaW.PrintMore
set_option linter.unusedVariables false
def laws_FnExactProbeFor.Pure : Prop := ∀ (a0_0 : Int) (l0_1 : List (S111)) (a1 : Int) (a2 : Int), okS24 (⟨a0_0, l0_1⟩ : S24) → (ZOpen.okI .i64) a1 → (ZOpen.okI .i64) a2 → ∃ k, laws_FnExactProbeFor.f k a0_0 l0_1 a1 a2 = some true
end Go.Proofs.Ytlplegdcpgbbbaa.Z

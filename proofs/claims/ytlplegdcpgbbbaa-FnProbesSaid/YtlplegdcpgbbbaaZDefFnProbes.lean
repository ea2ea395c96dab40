/- The one plain statement to which the law FnProbes comes down. -/
import Derived.Test.YtlplegdcpgbbbaaZ13
import Derived.Test.YtlplegdcpgbbbaaZOk
namespace Go.Proofs.Ytlplegdcpgbbbaa.Z
open Go.RowKit Go.Proofs.YtlplegdcpgbbbaaW.PrintWords Go.Proofs.YtlplegdcpgbbbaaW.PrintLast Go.Proofs.YtlplegdcpgbbbaaW.PrintMore
set_option linter.unusedVariables false
def laws_FnProbes.Pure : Prop := ∀ (l0 : List Int), l0.length ≤ maxLen → l0.length * 1 ≤ 140737488351232 → (∀ x ∈ l0, (Lit.int .u8 x).wf = true) → ∃ k, laws_FnProbes.f k l0 = some true
end Go.Proofs.Ytlplegdcpgbbbaa.Z

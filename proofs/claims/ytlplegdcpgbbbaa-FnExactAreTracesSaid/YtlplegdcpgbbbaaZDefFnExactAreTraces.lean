/- The one plain statement to which the law FnExactAreTraces comes down. -/
import Derived.Test.YtlplegdcpgbbbaaZ3
import Derived.Test.YtlplegdcpgbbbaaZOk
namespace Go.Proofs.Ytlplegdcpgbbbaa.Z
open Go.RowKit Go.Proofs.YtlplegdcpgbbbaaW.PrintWords Go.Proofs.YtlplegdcpgbbbaaW.PrintLast Go.Proofs.YtlplegdcpgbbbaaW.PrintMore
set_option linter.unusedVariables false
def laws_FnExactAreTraces.Pure : Prop := ∀ (l0 : List (S102)), (ZOpen.okL okS102) l0 → ∃ k, laws_FnExactAreTraces.f k l0 = some true
end Go.Proofs.Ytlplegdcpgbbbaa.Z

/- The one plain statement to which the law FnExactMatrixOf comes down. -/
import Derived.Test.YtlplegdcpgbbbaaZ11
import Derived.Test.YtlplegdcpgbbbaaZOk
namespace Go.Proofs.Ytlplegdcpgbbbaa.Z
open Go.RowKit Go.Proofs.YtlplegdcpgbbbaaW.PrintWords Go.Proofs.YtlplegdcpgbbbaaW.PrintLast Go.Proofs.YtlplegdcpgbbbaaW.PrintMore
set_option linter.unusedVariables false
def laws_FnExactMatrixOf.Pure : Prop := ∀ (l0 : List (S108)) (a1 : Int), (ZOpen.okL okS108) l0 → (ZOpen.okI .i64) a1 → ∃ k, laws_FnExactMatrixOf.f k l0 a1 = some true
end Go.Proofs.Ytlplegdcpgbbbaa.Z

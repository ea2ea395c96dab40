/- The one plain statement to which the law FnExactAreBounds comes down. -/
import Derived.Test.YtlghphhkbobhiaaZ10
import Derived.Test.YtlghphhkbobhiaaZOk
namespace Go.Proofs.Ytlghphhkbobhiaa.Z
open Go.RowKit Go.Proofs.YtlghphhkbobhiaaW.PrintWords Go.Proofs.YtlghphhkbobhiaaW.PrintLast Go.Proofs.YtlghphhkbobhiaaW.PrintMore
set_option linter.unusedVariables false
def laws_FnExactAreBounds.Pure : Prop := ∀ (l0 : List (List Int)) (l1 : List (S96)) (a2 : Int), (ZOpen.okL (ZOpen.okL (ZOpen.okI .i64))) l0 → (ZOpen.okL okS96) l1 → (ZOpen.okI .i64) a2 → ∃ k, laws_FnExactAreBounds.f k l0 l1 a2 = some true
end Go.Proofs.Ytlghphhkbobhiaa.Z

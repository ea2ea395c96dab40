/- The one plain statement to which the law FnExactNarrowOnce comes down. -/
import Derived.Test.YtgmdicckecjncaaZ15
import Derived.Test.YtgmdicckecjncaaZOk
namespace Go.Proofs.Ytgmdicckecjncaa.Z
open Go.RowKit Go.Proofs.YtgmdicckecjncaaW.PrintWords Go.Proofs.YtgmdicckecjncaaW.PrintLast Go.Proofs.YtgmdicckecjncaaW.PrintMore
set_option linter.unusedVariables false
def laws_FnExactNarrowOnce.Pure : Prop := ∀ (l0 : List (List Int)) (l1 : List (S80)) (l2 : List (S80)), (ZOpen.okL (ZOpen.okL (ZOpen.okI .i64))) l0 → (ZOpen.okL okS80) l1 → (ZOpen.okL okS80) l2 → ∃ k, laws_FnExactNarrowOnce.f k l0 l1 l2 = some true
end Go.Proofs.Ytgmdicckecjncaa.Z

/- The one plain statement to which the law FnExactNarrowAll comes down. -/
import Derived.Test.YtgmdicckecjncaaZ18
import Derived.Test.YtgmdicckecjncaaZOk
namespace Go.Proofs.Ytgmdicckecjncaa.Z
open Go.RowKit Go.Proofs.YtgmdicckecjncaaW.PrintWords Go.Proofs.YtgmdicckecjncaaW.PrintLast Go.Proofs.YtgmdicckecjncaaW.PrintMore
set_option linter.unusedVariables false
def laws_FnExactNarrowAll.Pure : Prop := ∀ (l0 : List (List Int)) (l1 : List (S80)) (a2 : Int), (ZOpen.okL (ZOpen.okL (ZOpen.okI .i64))) l0 → (ZOpen.okL okS80) l1 → (ZOpen.okI .i64) a2 → ∃ k, laws_FnExactNarrowAll.f k l0 l1 a2 = some true
end Go.Proofs.Ytgmdicckecjncaa.Z

/- The one plain statement to which the law FnBounds comes down. -/
import Derived.Test.YtgmdicckecjncaaZ17
import Derived.Test.YtgmdicckecjncaaZOk
namespace Go.Proofs.Ytgmdicckecjncaa.Z
open Go.RowKit Go.Proofs.YtgmdicckecjncaaW.PrintWords Go.Proofs.YtgmdicckecjncaaW.PrintLast Go.Proofs.YtgmdicckecjncaaW.PrintMore
set_option linter.unusedVariables false
def laws_FnBounds.Pure : Prop := ∀ (l0 : List Int), l0.length ≤ maxLen → l0.length * 1 ≤ 140737488351232 → (∀ x ∈ l0, (Lit.int .u8 x).wf = true) → ∃ k, laws_FnBounds.f k l0 = some true
end Go.Proofs.Ytgmdicckecjncaa.Z

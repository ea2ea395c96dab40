/- The one plain statement to which the law FnMaps comes down. -/
import Derived.Test.YtgghhcifkgdpeaaZ18
import Derived.Test.YtgghhcifkgdpeaaZOk
namespace Go.Proofs.Ytgghhcifkgdpeaa.Z
open Go.RowKit Go.Proofs.YtgghhcifkgdpeaaW.PrintWords Go.Proofs.YtgghhcifkgdpeaaW.PrintLast Go.Proofs.YtgghhcifkgdpeaaW.PrintMore
set_option linter.unusedVariables false
def laws_FnMaps.Pure : Prop := ∀ (l0 : List Int), l0.length ≤ maxLen → l0.length * 1 ≤ 140737488351232 → (∀ x ∈ l0, (Lit.int .u8 x).wf = true) → ∃ k, laws_FnMaps.f k l0 = some true
end Go.Proofs.Ytgghhcifkgdpeaa.Z

/- The one plain statement to which the law FnExactMapOf comes down. -/
import Derived.Test.YtgghhcifkgdpeaaZ13
import Derived.Test.YtgghhcifkgdpeaaZOk
namespace Go.Proofs.Ytgghhcifkgdpeaa.Z
open Go.RowKit Go.Proofs.YtgghhcifkgdpeaaW.PrintWords Go.Proofs.YtgghhcifkgdpeaaW.PrintLast Go.Proofs.YtgghhcifkgdpeaaW.PrintMore
set_option linter.unusedVariables false
def laws_FnExactMapOf.Pure : Prop := ∀ (l0 : List (S85)), (ZOpen.okL okS85) l0 → ∃ k, laws_FnExactMapOf.f k l0 = some true
end Go.Proofs.Ytgghhcifkgdpeaa.Z

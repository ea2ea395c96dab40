/- The one plain statement to which the law FnExactGroupsOf comes down. -/
import Derived.Test.YtgghhcifkgdpeaaZ18
import Derived.Test.YtgghhcifkgdpeaaZOk
namespace Go.Proofs.Ytgghhcifkgdpeaa.Z
open Go.RowKit Go.Proofs.YtgghhcifkgdpeaaW.PrintWords Go.Proofs.YtgghhcifkgdpeaaW.PrintLast Go.Proofs.YtgghhcifkgdpeaaW.PrintMore
set_option linter.unusedVariables false
def laws_FnExactGroupsOf.Pure : Prop := ∀ (l0 : List (S70)), (ZOpen.okL okS70) l0 → ∃ k, laws_FnExactGroupsOf.f k l0 = some true
end Go.Proofs.Ytgghhcifkgdpeaa.Z

/- The one plain statement to which the law FnExactAddressesOf comes down. -/
import Derived.Test.YtfmldgpebnnbbaaZ8
import Derived.Test.YtfmldgpebnnbbaaZOk
namespace Go.Proofs.Ytfmldgpebnnbbaa.Z
open Go.RowKit Go.Proofs.YtfmldgpebnnbbaaW.PrintWords Go.Proofs.YtfmldgpebnnbbaaW.PrintLast Go.Proofs.YtfmldgpebnnbbaaW.PrintMore
set_option linter.unusedVariables false
def laws_FnExactAddressesOf.Pure : Prop := ∀ (l0 : List (S98)), (ZOpen.okL okS98) l0 → ∃ k, laws_FnExactAddressesOf.f k l0 = some true
end Go.Proofs.Ytfmldgpebnnbbaa.Z

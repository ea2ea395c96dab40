/- The one plain statement to which the law FnExactMeetAll comes down. -/
import Derived.Test.YthfnnlbppkhhjaaZ8
import Derived.Test.YthfnnlbppkhhjaaZOk
namespace Go.Proofs.Ythfnnlbppkhhjaa.Z
open Go.RowKit Go.Proofs.YthfnnlbppkhhjaaW.PrintWords Go.Proofs.YthfnnlbppkhhjaaW.PrintLast Go.Proofs.YthfnnlbppkhhjaaW.PrintMore
set_option linter.unusedVariables false
def laws_FnExactMeetAll.Pure : Prop := ∀ (l0 : List (S75)), (ZOpen.okL okS75) l0 → ∃ k, laws_FnExactMeetAll.f k l0 = some true
end Go.Proofs.Ythfnnlbppkhhjaa.Z

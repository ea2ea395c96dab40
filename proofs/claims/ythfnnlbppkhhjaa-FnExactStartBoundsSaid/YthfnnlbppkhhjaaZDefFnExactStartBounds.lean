/- The one plain statement to which the law FnExactStartBounds comes down. -/
import Derived.Test.YthfnnlbppkhhjaaZ3
import Derived.Test.YthfnnlbppkhhjaaZOk
namespace Go.Proofs.Ythfnnlbppkhhjaa.Z
open Go.RowKit Go.Proofs.YthfnnlbppkhhjaaW.PrintWords Go.Proofs.YthfnnlbppkhhjaaW.PrintLast Go.Proofs.YthfnnlbppkhhjaaW.PrintMore
set_option linter.unusedVariables false
def laws_FnExactStartBounds.Pure : Prop := ∀ (a0 : Int), (ZOpen.okI .i64) a0 → ∃ k, laws_FnExactStartBounds.f k a0 = some true
end Go.Proofs.Ythfnnlbppkhhjaa.Z

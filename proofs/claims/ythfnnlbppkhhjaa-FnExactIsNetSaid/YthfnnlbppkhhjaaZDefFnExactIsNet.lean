/- The one plain statement to which the law FnExactIsNet comes down. -/
import Derived.Test.YthfnnlbppkhhjaaZ19
import Derived.Test.YthfnnlbppkhhjaaZOk
namespace Go.Proofs.Ythfnnlbppkhhjaa.Z
open Go.RowKit Go.Proofs.YthfnnlbppkhhjaaW.PrintWords Go.Proofs.YthfnnlbppkhhjaaW.PrintLast Go.Proofs.YthfnnlbppkhhjaaW.PrintMore
set_option linter.unusedVariables false
def laws_FnExactIsNet.Pure : Prop := ∀ (a0_0 : Int) (l0_1 : List (S98)), okS43 (⟨a0_0, l0_1⟩ : S43) → ∃ k, laws_FnExactIsNet.f k a0_0 l0_1 = some true
end Go.Proofs.Ythfnnlbppkhhjaa.Z

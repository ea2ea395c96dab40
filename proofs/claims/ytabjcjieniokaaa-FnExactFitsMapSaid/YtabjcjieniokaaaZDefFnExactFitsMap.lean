/- The one plain statement to which the law FnExactFitsMap comes down. -/
import Derived.Test.YtabjcjieniokaaaZ13
import Derived.Test.YtabjcjieniokaaaZOk
namespace Go.Proofs.Ytabjcjieniokaaa.Z
open Go.RowKit Go.Proofs.YtabjcjieniokaaaW.PrintWords Go.Proofs.YtabjcjieniokaaaW.PrintLast Go.Proofs.YtabjcjieniokaaaW.PrintMore
set_option linter.unusedVariables false
def laws_FnExactFitsMap.Pure : Prop := ∀ (a0_0 : Int) (l0_1 : List (S96)) (l1 : List (S62)), okS24 (⟨a0_0, l0_1⟩ : S24) → (ZOpen.okL okS62) l1 → ∃ k, laws_FnExactFitsMap.f k a0_0 l0_1 l1 = some true
end Go.Proofs.Ytabjcjieniokaaa.Z

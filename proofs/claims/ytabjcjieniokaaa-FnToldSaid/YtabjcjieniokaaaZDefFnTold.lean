/- The one plain statement to which the law FnTold comes down. -/
import Derived.Test.YtabjcjieniokaaaZ16
import Derived.Test.YtabjcjieniokaaaZOk
namespace Go.Proofs.Ytabjcjieniokaaa.Z
open Go.RowKit Go.Proofs.YtabjcjieniokaaaW.PrintWords Go.Proofs.YtabjcjieniokaaaW.PrintLast Go.Proofs.YtabjcjieniokaaaW.PrintMore
set_option linter.unusedVariables false
def laws_FnTold.Pure : Prop := ∀ (l0 : List Int), l0.length ≤ maxLen → l0.length * 1 ≤ 140737488351232 → (∀ x ∈ l0, (Lit.int .u8 x).wf = true) → ∃ k, laws_FnTold.f k l0 = some true
end Go.Proofs.Ytabjcjieniokaaa.Z

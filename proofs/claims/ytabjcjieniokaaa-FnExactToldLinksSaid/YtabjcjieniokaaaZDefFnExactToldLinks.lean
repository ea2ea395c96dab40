/- The one plain statement to which the law FnExactToldLinks comes down. -/
import Derived.Test.YtabjcjieniokaaaZ16
import Derived.Test.YtabjcjieniokaaaZOk
namespace Go.Proofs.Ytabjcjieniokaaa.Z
open Go.RowKit Go.Proofs.YtabjcjieniokaaaW.PrintWords Go.Proofs.YtabjcjieniokaaaW.PrintLast Go.Proofs.YtabjcjieniokaaaW.PrintMore
set_option linter.unusedVariables false
def laws_FnExactToldLinks.Pure : Prop := ∀ (l0 : List (List Int)) (a1 : Int), (ZOpen.okL (ZOpen.okL (ZOpen.okI .i64))) l0 → (ZOpen.okI .i64) a1 → ∃ k, laws_FnExactToldLinks.f k l0 a1 = some true
end Go.Proofs.Ytabjcjieniokaaa.Z

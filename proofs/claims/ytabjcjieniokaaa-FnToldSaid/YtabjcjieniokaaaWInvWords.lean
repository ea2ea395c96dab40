-- Lines of a printed text that this claim names; struck down to them by this session's wip/tools/trimw.
import Derived.Test.YtabjcjieniokaaaWInv
import Derived.Test.YtabjcjieniokaaaWFootNe
namespace Go.Proofs.YtabjcjieniokaaaW.PrintWords
open Go.RowKit
end Go.Proofs.YtabjcjieniokaaaW.PrintWords
namespace Go.Proofs.YtabjcjieniokaaaW.PrintLast
section
variable {ops : Array Oper} {a : Act} {o og : Oper} {g : Nat} {t : Tmp} {u : Bool}
end
end Go.Proofs.YtabjcjieniokaaaW.PrintLast

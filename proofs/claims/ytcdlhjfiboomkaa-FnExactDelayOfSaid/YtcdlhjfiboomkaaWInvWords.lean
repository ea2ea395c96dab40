-- Lines of a printed text that this claim names; struck down to them by this session's wip/tools/trimw.
import Derived.Test.YtcdlhjfiboomkaaWInv
import Derived.Test.YtcdlhjfiboomkaaWFootNe
namespace Go.Proofs.YtcdlhjfiboomkaaW.PrintWords
open Go.RowKit
end Go.Proofs.YtcdlhjfiboomkaaW.PrintWords
namespace Go.Proofs.YtcdlhjfiboomkaaW.PrintLast
section
variable {ops : Array Oper} {a : Act} {o og : Oper} {g : Nat} {t : Tmp} {u : Bool}
end
end Go.Proofs.YtcdlhjfiboomkaaW.PrintLast

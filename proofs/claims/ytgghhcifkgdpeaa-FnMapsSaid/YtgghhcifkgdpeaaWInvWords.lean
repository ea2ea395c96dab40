-- Lines of a printed text that this claim names; struck down to them by this session's wip/tools/trimw.
import Derived.Test.YtgghhcifkgdpeaaWInv
import Derived.Test.YtgghhcifkgdpeaaWFootNe
namespace Go.Proofs.YtgghhcifkgdpeaaW.PrintWords
open Go.RowKit
end Go.Proofs.YtgghhcifkgdpeaaW.PrintWords
namespace Go.Proofs.YtgghhcifkgdpeaaW.PrintLast
section
variable {ops : Array Oper} {a : Act} {o og : Oper} {g : Nat} {t : Tmp} {u : Bool}
end
end Go.Proofs.YtgghhcifkgdpeaaW.PrintLast

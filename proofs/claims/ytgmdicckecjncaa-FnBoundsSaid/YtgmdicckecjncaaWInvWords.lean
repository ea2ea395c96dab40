-- Lines of a printed text that this claim names; struck down to them by this session's wip/tools/trimw.
import Derived.Test.YtgmdicckecjncaaWInv
import Derived.Test.YtgmdicckecjncaaWFootNe
namespace Go.Proofs.YtgmdicckecjncaaW.PrintWords
open Go.RowKit
end Go.Proofs.YtgmdicckecjncaaW.PrintWords
namespace Go.Proofs.YtgmdicckecjncaaW.PrintLast
section
variable {ops : Array Oper} {a : Act} {o og : Oper} {g : Nat} {t : Tmp} {u : Bool}
end
end Go.Proofs.YtgmdicckecjncaaW.PrintLast

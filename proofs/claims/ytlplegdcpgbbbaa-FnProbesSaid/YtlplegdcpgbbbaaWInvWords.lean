-- Lines of a printed text that this claim names; struck down to them by this session's wip/tools/trimw.
import Derived.Test.YtlplegdcpgbbbaaWInv
import Derived.Test.YtlplegdcpgbbbaaWFootNe
namespace Go.Proofs.YtlplegdcpgbbbaaW.PrintWords
open Go.RowKit
end Go.Proofs.YtlplegdcpgbbbaaW.PrintWords
namespace Go.Proofs.YtlplegdcpgbbbaaW.PrintLast
section
variable {ops : Array Oper} {a : Act} {o og : Oper} {g : Nat} {t : Tmp} {u : Bool}
end
end Go.Proofs.YtlplegdcpgbbbaaW.PrintLast

-- Lines of a printed text that this claim names; struck down to them by this session's wip/tools/trimw.
import Derived.Test.YtcdlhjfiboomkaaWWords
/-! ### 58. A guarded operation whose guard is known to want it: the same goal without the guard -/
namespace Go.Proofs.YtcdlhjfiboomkaaW.PrintWords
open Go.RowKit
section
variable {P : Program} {ops : Array Oper} {rest : List Oper} {o : Oper} {a : Act} {Q : Exit → Act → World → Prop} {W : World}
end
end Go.Proofs.YtcdlhjfiboomkaaW.PrintWords

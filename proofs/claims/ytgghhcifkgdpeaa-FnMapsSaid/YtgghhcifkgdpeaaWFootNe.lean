-- Lines of a printed text that this claim names; struck down to them by this session's wip/tools/trimw.
import Derived.Test.YtgghhcifkgdpeaaWN
/-! ### 52. A row that stays read whatever happens to a block (a set of blocks) doesn't lie there -/
namespace Go.Proofs.YtgghhcifkgdpeaaW.PrintWords
open Go.RowKit
namespace Kd
section
variable {α : Type} {d : Kd α} {W : World} {g n : Nat} {S ok : Nat → Prop} {A : Option Addr} {ad : Addr} {xs : List α}
end
end Kd
end Go.Proofs.YtgghhcifkgdpeaaW.PrintWords

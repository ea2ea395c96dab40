/- What the arguments of this seat's laws are when they can be read as data: each number fits its kind, each list is no longer than a list can be. No condition. -/
import Derived.Test.YtgghhcifkgdpeaaZ0
import Derived.Test.YtgghhcifkgdpeaaZOpen
import Derived.KernelRfl
namespace Go.Proofs.Ytgghhcifkgdpeaa.Z
open Go.RowKit Go.Proofs.YtgghhcifkgdpeaaW.PrintWords Go.Proofs.YtgghhcifkgdpeaaW.PrintLast Go.Proofs.YtgghhcifkgdpeaaW.PrintMore

end Go.Proofs.Ytgghhcifkgdpeaa.Z

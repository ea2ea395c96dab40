/- What the arguments of this seat's laws are when they can be read as data: each number fits its kind, each list is no longer than a list can be. No condition. -/
import Derived.Test.YtcdlhjfiboomkaaZ0
import Derived.Test.YtcdlhjfiboomkaaZOpen
import Derived.KernelRfl
namespace Go.Proofs.Ytcdlhjfiboomkaa.Z
open Go.RowKit Go.Proofs.YtcdlhjfiboomkaaW.PrintWords Go.Proofs.YtcdlhjfiboomkaaW.PrintLast Go.Proofs.YtcdlhjfiboomkaaW.PrintMore

end Go.Proofs.Ytcdlhjfiboomkaa.Z

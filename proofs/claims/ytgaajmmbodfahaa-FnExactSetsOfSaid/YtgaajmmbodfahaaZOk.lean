/- What the arguments of this seat's laws are when they can be read as data: each number fits its kind, each list is no longer than a list can be. No condition. -/
import Derived.Test.YtgaajmmbodfahaaZ0
import Derived.Test.YtgaajmmbodfahaaZOpen
import Derived.KernelRfl
namespace Go.Proofs.Ytgaajmmbodfahaa.Z
open Go.RowKit Go.Proofs.YtgaajmmbodfahaaW.PrintWords Go.Proofs.YtgaajmmbodfahaaW.PrintLast Go.Proofs.YtgaajmmbodfahaaW.PrintMore

end Go.Proofs.Ytgaajmmbodfahaa.Z

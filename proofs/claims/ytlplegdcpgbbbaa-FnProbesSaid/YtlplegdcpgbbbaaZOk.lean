/- What the arguments of this seat's laws are when they can be read as data: each number fits its kind, each list is no longer than a list can be. No condition. -/
import Derived.Test.YtlplegdcpgbbbaaZ0
import Derived.Test.YtlplegdcpgbbbaaZOpen
import Derived.KernelRfl
namespace Go.Proofs.Ytlplegdcpgbbbaa.Z
open Go.RowKit Go.Proofs.YtlplegdcpgbbbaaW.PrintWords Go.Proofs.YtlplegdcpgbbbaaW.PrintLast Go.Proofs.YtlplegdcpgbbbaaW.PrintMore

end Go.Proofs.Ytlplegdcpgbbbaa.Z

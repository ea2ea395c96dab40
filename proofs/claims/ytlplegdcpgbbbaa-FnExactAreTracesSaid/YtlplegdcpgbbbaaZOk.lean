/- What the arguments of this seat's laws are when they can be read as data: each number fits its kind, each list is no longer than a list can be. No condition. -/
import Derived.Test.YtlplegdcpgbbbaaZ0
import Derived.Test.YtlplegdcpgbbbaaZOpen
import Derived.KernelRfl
namespace Go.Proofs.Ytlplegdcpgbbbaa.Z
open Go.RowKit Go.Proofs.YtlplegdcpgbbbaaW.PrintWords Go.Proofs.YtlplegdcpgbbbaaW.PrintLast Go.Proofs.YtlplegdcpgbbbaaW.PrintMore
def okS102 (x : S102) : Prop := (ZOpen.okL (ZOpen.okI .i64)) x.f0
theorem opens102 : ZOpen.Opens Try.prog 102 k102 okS102 :=
  ZOpen.opens_struct1 (fun x : S102 => x.f0) (fun a => ⟨a⟩) (fun _ => rfl) Try.underlying102 (by kernel_rfl) rfl (ZOpen.opens_slice Try.underlying26 (by kernel_rfl) (ZOpen.opens_int Try.underlying3 (by kernel_rfl)) (0 : Int))
end Go.Proofs.Ytlplegdcpgbbbaa.Z

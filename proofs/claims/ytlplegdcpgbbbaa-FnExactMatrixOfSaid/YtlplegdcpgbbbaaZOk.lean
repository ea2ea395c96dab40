/- What the arguments of this seat's laws are when they can be read as data: each number fits its kind, each list is no longer than a list can be. No condition. -/
import Derived.Test.YtlplegdcpgbbbaaZ0
import Derived.Test.YtlplegdcpgbbbaaZOpen
import Derived.KernelRfl
namespace Go.Proofs.Ytlplegdcpgbbbaa.Z
open Go.RowKit Go.Proofs.YtlplegdcpgbbbaaW.PrintWords Go.Proofs.YtlplegdcpgbbbaaW.PrintLast Go.Proofs.YtlplegdcpgbbbaaW.PrintMore
def okS108 (x : S108) : Prop := ZOpen.okP (ZOpen.okI .i64) (ZOpen.okP (ZOpen.okI .i64) (ZOpen.okL (ZOpen.okI .i64))) (x.f0, x.f1, x.f2)
theorem opens108 : ZOpen.Opens Try.prog 108 k108 okS108 :=
  ZOpen.opens_struct3 (fun x : S108 => (x.f0, x.f1, x.f2)) (fun a => ⟨a.1, a.2.1, a.2.2⟩) (fun _ => rfl) Try.underlying108 (by kernel_rfl) rfl rfl rfl (ZOpen.opens_int Try.underlying3 (by kernel_rfl)) (ZOpen.opens_int Try.underlying3 (by kernel_rfl)) (ZOpen.opens_slice Try.underlying26 (by kernel_rfl) (ZOpen.opens_int Try.underlying3 (by kernel_rfl)) (0 : Int))
end Go.Proofs.Ytlplegdcpgbbbaa.Z

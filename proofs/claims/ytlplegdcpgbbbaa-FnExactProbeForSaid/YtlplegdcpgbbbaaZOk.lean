/- What the arguments of this seat's laws are when they can be read as data: each number fits its kind, each list is no longer than a list can be. No condition. -/
import Derived.Test.YtlplegdcpgbbbaaZ0
import Derived.Test.YtlplegdcpgbbbaaZOpen
import Derived.KernelRfl
namespace Go.Proofs.Ytlplegdcpgbbbaa.Z
open Go.RowKit Go.Proofs.YtlplegdcpgbbbaaW.PrintWords Go.Proofs.YtlplegdcpgbbbaaW.PrintLast Go.Proofs.YtlplegdcpgbbbaaW.PrintMore
def okS111 (x : S111) : Prop := ZOpen.okP (ZOpen.okI .i64) (ZOpen.okI .i64) (x.f0, x.f1)
theorem opens111 : ZOpen.Opens Try.prog 111 k111 okS111 :=
  ZOpen.opens_struct2 (fun x : S111 => (x.f0, x.f1)) (fun a => ⟨a.1, a.2⟩) (fun _ => rfl) Try.underlying111 (by kernel_rfl) rfl rfl (ZOpen.opens_int Try.underlying3 (by kernel_rfl)) (ZOpen.opens_int Try.underlying3 (by kernel_rfl))
def okS24 (x : S24) : Prop := ZOpen.okP (ZOpen.okI .i64) (ZOpen.okL okS111) (x.f0, x.f1)
theorem opens24 : ZOpen.Opens Try.prog 24 k24 okS24 :=
  ZOpen.opens_struct2 (fun x : S24 => (x.f0, x.f1)) (fun a => ⟨a.1, a.2⟩) (fun _ => rfl) Try.underlying24 (by kernel_rfl) rfl rfl (ZOpen.opens_int Try.underlying3 (by kernel_rfl)) (ZOpen.opens_slice Try.underlying22 (by kernel_rfl) opens111 z111)
end Go.Proofs.Ytlplegdcpgbbbaa.Z

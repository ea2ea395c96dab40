/- What the arguments of this seat's laws are when they can be read as data: each number fits its kind, each list is no longer than a list can be. No condition. -/
import Derived.Test.YtlghphhkbobhiaaZ0
import Derived.Test.YtlghphhkbobhiaaZOpen
import Derived.KernelRfl
namespace Go.Proofs.Ytlghphhkbobhiaa.Z
open Go.RowKit Go.Proofs.YtlghphhkbobhiaaW.PrintWords Go.Proofs.YtlghphhkbobhiaaW.PrintLast Go.Proofs.YtlghphhkbobhiaaW.PrintMore
def okS96 (x : S96) : Prop := ZOpen.okP (ZOpen.okI .i64) (ZOpen.okI .i64) (x.f0, x.f1)
theorem opens96 : ZOpen.Opens Try.prog 96 k96 okS96 :=
  ZOpen.opens_struct2 (fun x : S96 => (x.f0, x.f1)) (fun a => ⟨a.1, a.2⟩) (fun _ => rfl) Try.underlying96 (by kernel_rfl) rfl rfl (ZOpen.opens_int Try.underlying3 (by kernel_rfl)) (ZOpen.opens_int Try.underlying3 (by kernel_rfl))
end Go.Proofs.Ytlghphhkbobhiaa.Z

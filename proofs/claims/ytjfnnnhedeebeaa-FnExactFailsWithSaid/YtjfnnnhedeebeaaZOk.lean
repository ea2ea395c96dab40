/- What the arguments of this seat's laws are when they can be read as data: each number fits its kind, each list is no longer than a list can be. No condition. -/
import Derived.Test.YtjfnnnhedeebeaaZ0
import Derived.Test.YtjfnnnhedeebeaaZOpen
import Derived.KernelRfl
namespace Go.Proofs.Ytjfnnnhedeebeaa.Z
open Go.RowKit Go.Proofs.YtjfnnnhedeebeaaW.PrintWords Go.Proofs.YtjfnnnhedeebeaaW.PrintLast Go.Proofs.YtjfnnnhedeebeaaW.PrintMore
def okS23 (x : S23) : Prop := ZOpen.okP (ZOpen.okI .i64) (ZOpen.okI .i64) (x.f0, x.f1)
theorem opens23 : ZOpen.Opens Try.prog 23 k23 okS23 :=
  ZOpen.opens_struct2 (fun x : S23 => (x.f0, x.f1)) (fun a => ⟨a.1, a.2⟩) (fun _ => rfl) Try.underlying23 (by kernel_rfl) rfl rfl (ZOpen.opens_int Try.underlying3 (by kernel_rfl)) (ZOpen.opens_int Try.underlying3 (by kernel_rfl))
end Go.Proofs.Ytjfnnnhedeebeaa.Z

/- What the arguments of this seat's laws are when they can be read as data: each number fits its kind, each list is no longer than a list can be. No condition. -/
import Derived.Test.YtgghhcifkgdpeaaZ0
import Derived.Test.YtgghhcifkgdpeaaZOpen
import Derived.KernelRfl
namespace Go.Proofs.Ytgghhcifkgdpeaa.Z
open Go.RowKit Go.Proofs.YtgghhcifkgdpeaaW.PrintWords Go.Proofs.YtgghhcifkgdpeaaW.PrintLast Go.Proofs.YtgghhcifkgdpeaaW.PrintMore
def okS70 (x : S70) : Prop := ZOpen.okP (ZOpen.okI .i64) (ZOpen.okP (ZOpen.okI .i64) (ZOpen.okI .i64)) (x.f0, x.f1, x.f2)
theorem opens70 : ZOpen.Opens Try.prog 70 k70 okS70 :=
  ZOpen.opens_struct3 (fun x : S70 => (x.f0, x.f1, x.f2)) (fun a => ⟨a.1, a.2.1, a.2.2⟩) (fun _ => rfl) Try.underlying70 (by kernel_rfl) rfl rfl rfl (ZOpen.opens_int Try.underlying3 (by kernel_rfl)) (ZOpen.opens_int Try.underlying3 (by kernel_rfl)) (ZOpen.opens_int Try.underlying3 (by kernel_rfl))
end Go.Proofs.Ytgghhcifkgdpeaa.Z

/- What the arguments of this seat's laws are when they can be read as data: each number fits its kind, each list is no longer than a list can be. No condition. -/
import Derived.Test.YtfjiijlhheajmaaZ0
import Derived.Test.YtfjiijlhheajmaaZOpen
import Derived.KernelRfl
namespace Go.Proofs.Ytfjiijlhheajmaa.Z
open Go.RowKit Go.Proofs.YtfjiijlhheajmaaW.PrintWords Go.Proofs.YtfjiijlhheajmaaW.PrintLast Go.Proofs.YtfjiijlhheajmaaW.PrintMore
def okS24 (x : S24) : Prop := ZOpen.okP (ZOpen.okI .i64) (ZOpen.okL (ZOpen.okI .i64)) (x.f0, x.f1)
theorem opens24 : ZOpen.Opens Try.prog 24 k24 okS24 :=
  ZOpen.opens_struct2 (fun x : S24 => (x.f0, x.f1)) (fun a => ⟨a.1, a.2⟩) (fun _ => rfl) Try.underlying24 (by kernel_rfl) rfl rfl (ZOpen.opens_int Try.underlying3 (by kernel_rfl)) (ZOpen.opens_slice Try.underlying22 (by kernel_rfl) (ZOpen.opens_int Try.underlying3 (by kernel_rfl)) (0 : Int))
end Go.Proofs.Ytfjiijlhheajmaa.Z

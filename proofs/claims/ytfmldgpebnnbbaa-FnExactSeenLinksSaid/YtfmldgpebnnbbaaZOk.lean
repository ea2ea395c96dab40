/- What the arguments of this seat's laws are when they can be read as data: each number fits its kind, each list is no longer than a list can be. No condition. -/
import Derived.Test.YtfmldgpebnnbbaaZ0
import Derived.Test.YtfmldgpebnnbbaaZOpen
import Derived.KernelRfl
namespace Go.Proofs.Ytfmldgpebnnbbaa.Z
open Go.RowKit Go.Proofs.YtfmldgpebnnbbaaW.PrintWords Go.Proofs.YtfmldgpebnnbbaaW.PrintLast Go.Proofs.YtfmldgpebnnbbaaW.PrintMore
def okS104 (x : S104) : Prop := ZOpen.okP (ZOpen.okI .i64) (ZOpen.okP (ZOpen.okI .i64) (ZOpen.okL (ZOpen.okI .i64))) (x.f0, x.f1, x.f2)
theorem opens104 : ZOpen.Opens Try.prog 104 k104 okS104 :=
  ZOpen.opens_struct3 (fun x : S104 => (x.f0, x.f1, x.f2)) (fun a => ⟨a.1, a.2.1, a.2.2⟩) (fun _ => rfl) Try.underlying104 (by kernel_rfl) rfl rfl rfl (ZOpen.opens_int Try.underlying3 (by kernel_rfl)) (ZOpen.opens_int Try.underlying3 (by kernel_rfl)) (ZOpen.opens_slice Try.underlying24 (by kernel_rfl) (ZOpen.opens_int Try.underlying3 (by kernel_rfl)) (0 : Int))
end Go.Proofs.Ytfmldgpebnnbbaa.Z

/- What the arguments of this seat's laws are when they can be read as data: each number fits its kind, each list is no longer than a list can be. No condition. -/
import Derived.Test.YtfmldgpebnnbbaaZ0
import Derived.Test.YtfmldgpebnnbbaaZOpen
import Derived.KernelRfl
namespace Go.Proofs.Ytfmldgpebnnbbaa.Z
open Go.RowKit Go.Proofs.YtfmldgpebnnbbaaW.PrintWords Go.Proofs.YtfmldgpebnnbbaaW.PrintLast Go.Proofs.YtfmldgpebnnbbaaW.PrintMore
def okS98 (x : S98) : Prop := ZOpen.okP (ZOpen.okI .i64) (ZOpen.okP (ZOpen.okI .i64) (ZOpen.okI .i64)) (x.f0, x.f1, x.f2)
theorem opens98 : ZOpen.Opens Try.prog 98 k98 okS98 :=
  ZOpen.opens_struct3 (fun x : S98 => (x.f0, x.f1, x.f2)) (fun a => ⟨a.1, a.2.1, a.2.2⟩) (fun _ => rfl) Try.underlying98 (by kernel_rfl) rfl rfl rfl (ZOpen.opens_int Try.underlying3 (by kernel_rfl)) (ZOpen.opens_int Try.underlying3 (by kernel_rfl)) (ZOpen.opens_int Try.underlying3 (by kernel_rfl))
end Go.Proofs.Ytfmldgpebnnbbaa.Z

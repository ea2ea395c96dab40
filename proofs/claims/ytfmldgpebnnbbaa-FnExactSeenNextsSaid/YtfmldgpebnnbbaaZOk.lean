/- What the arguments of this seat's laws are when they can be read as data: each number fits its kind, each list is no longer than a list can be. No condition. -/
import Derived.Test.YtfmldgpebnnbbaaZ0
import Derived.Test.YtfmldgpebnnbbaaZOpen
import Derived.KernelRfl
namespace Go.Proofs.Ytfmldgpebnnbbaa.Z
open Go.RowKit Go.Proofs.YtfmldgpebnnbbaaW.PrintWords Go.Proofs.YtfmldgpebnnbbaaW.PrintLast Go.Proofs.YtfmldgpebnnbbaaW.PrintMore
def okS59 (x : S59) : Prop := ZOpen.okP (ZOpen.okI .i64) (ZOpen.okL (ZOpen.okI .i64)) (x.f0, x.f1)
theorem opens59 : ZOpen.Opens Try.prog 59 k59 okS59 :=
  ZOpen.opens_struct2 (fun x : S59 => (x.f0, x.f1)) (fun a => ⟨a.1, a.2⟩) (fun _ => rfl) Try.underlying59 (by kernel_rfl) rfl rfl (ZOpen.opens_int Try.underlying3 (by kernel_rfl)) (ZOpen.opens_slice Try.underlying24 (by kernel_rfl) (ZOpen.opens_int Try.underlying3 (by kernel_rfl)) (0 : Int))
end Go.Proofs.Ytfmldgpebnnbbaa.Z

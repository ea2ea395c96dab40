/- What the arguments of this seat's laws are when they can be read as data: each number fits its kind, each list is no longer than a list can be. No condition. -/
import Derived.Test.YtgghhcifkgdpeaaZ0
import Derived.Test.YtgghhcifkgdpeaaZOpen
import Derived.KernelRfl
namespace Go.Proofs.Ytgghhcifkgdpeaa.Z
open Go.RowKit Go.Proofs.YtgghhcifkgdpeaaW.PrintWords Go.Proofs.YtgghhcifkgdpeaaW.PrintLast Go.Proofs.YtgghhcifkgdpeaaW.PrintMore
def okS85 (x : S85) : Prop := (ZOpen.okL (ZOpen.okI .i64)) x.f0
theorem opens85 : ZOpen.Opens Try.prog 85 k85 okS85 :=
  ZOpen.opens_struct1 (fun x : S85 => x.f0) (fun a => ⟨a⟩) (fun _ => rfl) Try.underlying85 (by kernel_rfl) rfl (ZOpen.opens_slice Try.underlying37 (by kernel_rfl) (ZOpen.opens_int Try.underlying3 (by kernel_rfl)) (0 : Int))
end Go.Proofs.Ytgghhcifkgdpeaa.Z

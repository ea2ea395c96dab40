/- What the arguments of this seat's laws are when they can be read as data: each number fits its kind, each list is no longer than a list can be. No condition. -/
import Derived.Test.YtgmdicckecjncaaZ0
import Derived.Test.YtgmdicckecjncaaZOpen
import Derived.KernelRfl
namespace Go.Proofs.Ytgmdicckecjncaa.Z
open Go.RowKit Go.Proofs.YtgmdicckecjncaaW.PrintWords Go.Proofs.YtgmdicckecjncaaW.PrintLast Go.Proofs.YtgmdicckecjncaaW.PrintMore
def okS80 (x : S80) : Prop := ZOpen.okP (ZOpen.okI .i64) (ZOpen.okI .i64) (x.f0, x.f1)
theorem opens80 : ZOpen.Opens Try.prog 80 k80 okS80 :=
  ZOpen.opens_struct2 (fun x : S80 => (x.f0, x.f1)) (fun a => ⟨a.1, a.2⟩) (fun _ => rfl) Try.underlying80 (by kernel_rfl) rfl rfl (ZOpen.opens_int Try.underlying3 (by kernel_rfl)) (ZOpen.opens_int Try.underlying3 (by kernel_rfl))
end Go.Proofs.Ytgmdicckecjncaa.Z

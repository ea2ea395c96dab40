/- What the arguments of this seat's laws are when they can be read as data: each number fits its kind, each list is no longer than a list can be. No condition. -/
import Derived.Test.YthfnnlbppkhhjaaZ0
import Derived.Test.YthfnnlbppkhhjaaZOpen
import Derived.KernelRfl
namespace Go.Proofs.Ythfnnlbppkhhjaa.Z
open Go.RowKit Go.Proofs.YthfnnlbppkhhjaaW.PrintWords Go.Proofs.YthfnnlbppkhhjaaW.PrintLast Go.Proofs.YthfnnlbppkhhjaaW.PrintMore
def okS98 (x : S98) : Prop := ZOpen.okP (ZOpen.okI .i64) (ZOpen.okI .i64) (x.f0, x.f1)
theorem opens98 : ZOpen.Opens Try.prog 98 k98 okS98 :=
  ZOpen.opens_struct2 (fun x : S98 => (x.f0, x.f1)) (fun a => ⟨a.1, a.2⟩) (fun _ => rfl) Try.underlying98 (by kernel_rfl) rfl rfl (ZOpen.opens_int Try.underlying3 (by kernel_rfl)) (ZOpen.opens_int Try.underlying3 (by kernel_rfl))
def okS43 (x : S43) : Prop := ZOpen.okP (ZOpen.okI .i64) (ZOpen.okL okS98) (x.f0, x.f1)
theorem opens43 : ZOpen.Opens Try.prog 43 k43 okS43 :=
  ZOpen.opens_struct2 (fun x : S43 => (x.f0, x.f1)) (fun a => ⟨a.1, a.2⟩) (fun _ => rfl) Try.underlying43 (by kernel_rfl) rfl rfl (ZOpen.opens_int Try.underlying3 (by kernel_rfl)) (ZOpen.opens_slice Try.underlying41 (by kernel_rfl) opens98 z98)
end Go.Proofs.Ythfnnlbppkhhjaa.Z

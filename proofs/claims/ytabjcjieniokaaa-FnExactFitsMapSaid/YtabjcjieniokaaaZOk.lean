/- What the arguments of this seat's laws are when they can be read as data: each number fits its kind, each list is no longer than a list can be. No condition. -/
import Derived.Test.YtabjcjieniokaaaZ0
import Derived.Test.YtabjcjieniokaaaZOpen
import Derived.KernelRfl
namespace Go.Proofs.Ytabjcjieniokaaa.Z
open Go.RowKit Go.Proofs.YtabjcjieniokaaaW.PrintWords Go.Proofs.YtabjcjieniokaaaW.PrintLast Go.Proofs.YtabjcjieniokaaaW.PrintMore
def okS96 (x : S96) : Prop := ZOpen.okP (ZOpen.okI .i64) (ZOpen.okI .i64) (x.f0, x.f1)
theorem opens96 : ZOpen.Opens Try.prog 96 k96 okS96 :=
  ZOpen.opens_struct2 (fun x : S96 => (x.f0, x.f1)) (fun a => ⟨a.1, a.2⟩) (fun _ => rfl) Try.underlying96 (by kernel_rfl) rfl rfl (ZOpen.opens_int Try.underlying3 (by kernel_rfl)) (ZOpen.opens_int Try.underlying3 (by kernel_rfl))
def okS24 (x : S24) : Prop := ZOpen.okP (ZOpen.okI .i64) (ZOpen.okL okS96) (x.f0, x.f1)
theorem opens24 : ZOpen.Opens Try.prog 24 k24 okS24 :=
  ZOpen.opens_struct2 (fun x : S24 => (x.f0, x.f1)) (fun a => ⟨a.1, a.2⟩) (fun _ => rfl) Try.underlying24 (by kernel_rfl) rfl rfl (ZOpen.opens_int Try.underlying3 (by kernel_rfl)) (ZOpen.opens_slice Try.underlying22 (by kernel_rfl) opens96 z96)
def okS62 (x : S62) : Prop := (ZOpen.okL (ZOpen.okI .i64)) x.f0
theorem opens62 : ZOpen.Opens Try.prog 62 k62 okS62 :=
  ZOpen.opens_struct1 (fun x : S62 => x.f0) (fun a => ⟨a⟩) (fun _ => rfl) Try.underlying62 (by kernel_rfl) rfl (ZOpen.opens_slice Try.underlying40 (by kernel_rfl) (ZOpen.opens_int Try.underlying3 (by kernel_rfl)) (0 : Int))
end Go.Proofs.Ytabjcjieniokaaa.Z

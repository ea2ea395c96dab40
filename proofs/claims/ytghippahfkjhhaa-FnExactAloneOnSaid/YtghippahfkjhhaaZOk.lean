/- What the arguments of this seat's laws are when they can be read as data: each number fits its kind, each list is no longer than a list can be. No condition. -/
import Derived.Test.YtghippahfkjhhaaZ0
import Derived.Test.YtghippahfkjhhaaZOpen
import Derived.KernelRfl
namespace Go.Proofs.Ytghippahfkjhhaa.Z
open Go.RowKit Go.Proofs.YtghippahfkjhhaaW.PrintWords Go.Proofs.YtghippahfkjhhaaW.PrintLast Go.Proofs.YtghippahfkjhhaaW.PrintMore
def okS29 (x : S29) : Prop := ZOpen.okP (ZOpen.okI .i64) (ZOpen.okI .i64) (x.f0, x.f1)
theorem opens29 : ZOpen.Opens Try.prog 29 k29 okS29 :=
  ZOpen.opens_struct2 (fun x : S29 => (x.f0, x.f1)) (fun a => ⟨a.1, a.2⟩) (fun _ => rfl) Try.underlying29 (by kernel_rfl) rfl rfl (ZOpen.opens_int Try.underlying3 (by kernel_rfl)) (ZOpen.opens_int Try.underlying3 (by kernel_rfl))
def okS92 (x : S92) : Prop := ZOpen.okP (ZOpen.okI .i64) (ZOpen.okI .i64) (x.f0, x.f1)
theorem opens92 : ZOpen.Opens Try.prog 92 k92 okS92 :=
  ZOpen.opens_struct2 (fun x : S92 => (x.f0, x.f1)) (fun a => ⟨a.1, a.2⟩) (fun _ => rfl) Try.underlying92 (by kernel_rfl) rfl rfl (ZOpen.opens_int Try.underlying3 (by kernel_rfl)) (ZOpen.opens_int Try.underlying3 (by kernel_rfl))
def okS38 (x : S38) : Prop := ZOpen.okP (ZOpen.okI .i64) (ZOpen.okL okS92) (x.f0, x.f1)
theorem opens38 : ZOpen.Opens Try.prog 38 k38 okS38 :=
  ZOpen.opens_struct2 (fun x : S38 => (x.f0, x.f1)) (fun a => ⟨a.1, a.2⟩) (fun _ => rfl) Try.underlying38 (by kernel_rfl) rfl rfl (ZOpen.opens_int Try.underlying3 (by kernel_rfl)) (ZOpen.opens_slice Try.underlying36 (by kernel_rfl) opens92 z92)
def okS86 (x : S86) : Prop := ZOpen.okP (ZOpen.okI .i64) (ZOpen.okP (ZOpen.okI .i64) (ZOpen.okI .i64)) (x.f0, x.f1, x.f2)
theorem opens86 : ZOpen.Opens Try.prog 86 k86 okS86 :=
  ZOpen.opens_struct3 (fun x : S86 => (x.f0, x.f1, x.f2)) (fun a => ⟨a.1, a.2.1, a.2.2⟩) (fun _ => rfl) Try.underlying86 (by kernel_rfl) rfl rfl rfl (ZOpen.opens_int Try.underlying3 (by kernel_rfl)) (ZOpen.opens_int Try.underlying3 (by kernel_rfl)) (ZOpen.opens_int Try.underlying3 (by kernel_rfl))
def okS99 (x : S99) : Prop := (ZOpen.okL (ZOpen.okI .i64)) x.f0
theorem opens99 : ZOpen.Opens Try.prog 99 k99 okS99 :=
  ZOpen.opens_struct1 (fun x : S99 => x.f0) (fun a => ⟨a⟩) (fun _ => rfl) Try.underlying99 (by kernel_rfl) rfl (ZOpen.opens_slice Try.underlying24 (by kernel_rfl) (ZOpen.opens_int Try.underlying3 (by kernel_rfl)) (0 : Int))
def okS105 (x : S105) : Prop := ZOpen.okP (ZOpen.okI .i64) (ZOpen.okP (ZOpen.okI .i64) (ZOpen.okL (ZOpen.okI .i64))) (x.f0, x.f1, x.f2)
theorem opens105 : ZOpen.Opens Try.prog 105 k105 okS105 :=
  ZOpen.opens_struct3 (fun x : S105 => (x.f0, x.f1, x.f2)) (fun a => ⟨a.1, a.2.1, a.2.2⟩) (fun _ => rfl) Try.underlying105 (by kernel_rfl) rfl rfl rfl (ZOpen.opens_int Try.underlying3 (by kernel_rfl)) (ZOpen.opens_int Try.underlying3 (by kernel_rfl)) (ZOpen.opens_slice Try.underlying24 (by kernel_rfl) (ZOpen.opens_int Try.underlying3 (by kernel_rfl)) (0 : Int))
end Go.Proofs.Ytghippahfkjhhaa.Z

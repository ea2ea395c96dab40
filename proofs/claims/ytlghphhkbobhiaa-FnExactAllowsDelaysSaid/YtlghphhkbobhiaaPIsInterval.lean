/- Plain lemmas: what the program's and the reference's IsInterval answer. No condition. -/
import Derived.Test.YtlghphhkbobhiaaPBase
import Derived.Test.YtlghphhkbobhiaaZ5
import Derived.Test.YtlghphhkbobhiaaZ4
namespace Go.Proofs.Ytlghphhkbobhiaa.Pure
open Go.RowKit Go.Proofs.Ytlghphhkbobhiaa.Z Go.Proofs.YtlghphhkbobhiaaW.PrintWords

/-- Is it an interval? -/
def isI (a b : Int) : Bool := decide (-100000 ≤ a ∧ a ≤ b ∧ b ≤ 100000)

theorem spec_isI (a b : Int) : spec_IsInterval.f a b = some (isI a b) := by
  unfold spec_IsInterval.f spec_l1In.f isI
  by_cases h1 : a ≤ b <;> by_cases h2 : -100000 ≤ a <;> by_cases h3 : b ≤ 100000 <;> by_cases h4 : a ≤ 100000 <;> by_cases h5 : -100000 ≤ b <;> first | omega | simp [h1, h2, h3, h4, h5]

theorem impl_isI (a b : Int) : impl_IsInterval.f a b = some (isI a b) := by
  unfold impl_IsInterval.f isI
  by_cases h1 : a ≤ b <;> by_cases h2 : -100000 ≤ a <;> by_cases h3 : b ≤ 100000 <;> first | omega | simp [h1, h2, h3]

end Go.Proofs.Ytlghphhkbobhiaa.Pure

/- The statement: for all stamps and every interval, the program's OneWay returns the same interval and the same bool as the reference's. No condition. -/
import Derived.Test.YtghippahfkjhhaaZDefFnExactOneWay
import Derived.Test.YtghippahfkjhhaaPBase
namespace Go.Proofs.Ytghippahfkjhhaa.Pure.OneWay
open Go.RowKit Go.Proofs.Ytghippahfkjhhaa.Z Go.Proofs.YtghippahfkjhhaaW.PrintWords Go.Proofs.Ytghippahfkjhhaa.Pure

def isI (a b : Int) : Bool := decide (-100000 ≤ a ∧ a ≤ b ∧ b ≤ 100000)
def inn (a : Int) : Bool := decide (0 ≤ a) && decide (a ≤ 100000)

theorem spec_isI (a b : Int) : spec_IsInterval.f a b = some (isI a b) := by
  unfold spec_IsInterval.f spec_l1In.f isI
  by_cases h1 : a ≤ b <;> by_cases h2 : -100000 ≤ a <;> by_cases h3 : b ≤ 100000 <;> by_cases h4 : a ≤ 100000 <;> by_cases h5 : -100000 ≤ b <;> first | omega | simp [h1, h2, h3, h4, h5]

theorem impl_isI (a b : Int) : impl_IsInterval.f a b = some (isI a b) := by
  unfold impl_IsInterval.f isI
  by_cases h1 : a ≤ b <;> by_cases h2 : -100000 ≤ a <;> by_cases h3 : b ≤ 100000 <;> first | omega | simp [h1, h2, h3]

theorem spec_max (a b : Int) : spec_Max.f a b = some (mx a b) := by
  unfold spec_Max.f mx
  by_cases h : a < b <;> simp [h]

theorem stamp (a : Int) : spec_l9Stamp.f a = some (inn a) := by
  unfold spec_l9Stamp.f spec_l1In.f inn
  by_cases h : 0 ≤ a <;> simp [h]

theorem range (a : Int) : impl_InRange.f a 0 100000 = some (inn a) := by
  unfold impl_InRange.f inn
  by_cases h : 0 ≤ a <;> simp [h]

theorem all2 (a b : Int) (k : Nat) : impl_allIn.f (k + 3) [a, b] 0 100000 = some (inn a && inn b) := by
  have w0 : wrap64 (0 + 1) = 1 := by unfold wrap64; omega
  have w1 : wrap64 (1 + 1) = 2 := by unfold wrap64; omega
  unfold impl_allIn.f
  simp only [impl_allIn.l0, w0, w1, List.length_cons, List.length_nil, rd, range, Option.bind_some]
  cases ha : inn a <;> cases hb : inn b <;> simp [ha, hb]

end Go.Proofs.Ytghippahfkjhhaa.Pure.OneWay
namespace Go.Proofs.Ytghippahfkjhhaa.Pure
open Go.RowKit Go.Proofs.Ytghippahfkjhhaa.Z Go.Proofs.YtghippahfkjhhaaW.PrintWords OneWay

theorem FnExactOneWay : laws_FnExactOneWay.Pure := by
  intro a b c d _ _ _
  refine ⟨3, ?_⟩
  unfold laws_FnExactOneWay.f laws_toInterval.f spec_OneWay.f impl_OneWay.f
  simp only [Option.bind_some, stamp, spec_isI, impl_isI, spec_OneWay.j0, impl_OneWay.j0, all2 _ _ 0, spec_max]
  cases inn a
  · simp [laws_eqInterval.f]
  · cases inn b
    · simp [laws_eqInterval.f]
    · cases isI c d
      · simp [laws_eqInterval.f]
      · simp only [Bool.and_true, if_true, Bool.not_true]
        cases isI (mx 0 (wrap64 (wrap64 (b - a) - d))) (wrap64 (wrap64 (b - a) - c)) <;> simp [laws_eqInterval.f]

end Go.Proofs.Ytghippahfkjhhaa.Pure

/- The statement: for every two intervals, the program's MeetIntervals returns the same interval and the same bool as the reference's. No condition. -/
import Derived.Test.YtjfnnnhedeebeaaZDefFnExactMeetIntervals
namespace Go.Proofs.Ytjfnnnhedeebeaa.Pure
open Go.RowKit Go.Proofs.Ytjfnnnhedeebeaa.Z Go.Proofs.YtjfnnnhedeebeaaW.PrintWords

/-- Is it an interval? -/
def isI (a b : Int) : Bool := decide (-100000 ≤ a ∧ a ≤ b ∧ b ≤ 100000)

theorem spec_isI (a b : Int) : spec_IsInterval.f a b = some (isI a b) := by
  unfold spec_IsInterval.f spec_l1In.f isI
  by_cases h1 : a ≤ b <;> by_cases h2 : -100000 ≤ a <;> by_cases h3 : b ≤ 100000 <;> by_cases h4 : a ≤ 100000 <;> by_cases h5 : -100000 ≤ b <;> first | omega | simp [h1, h2, h3, h4, h5]

theorem impl_isI (a b : Int) : impl_IsInterval.f a b = some (isI a b) := by
  unfold impl_IsInterval.f isI
  by_cases h1 : a ≤ b <;> by_cases h2 : -100000 ≤ a <;> by_cases h3 : b ≤ 100000 <;> first | omega | simp [h1, h2, h3]

theorem spec_max (a b : Int) : spec_Max.f a b = some (mx a b) := by
  unfold spec_Max.f mx
  by_cases h : a < b <;> simp [h]

theorem spec_min (a b : Int) : spec_Min.f a b = some (mn a b) := by
  unfold spec_Min.f mn
  by_cases h : b < a <;> simp [h]

theorem isI_meet (a b c d : Int) (h1 : isI a b = true) (h2 : isI c d = true) : isI (mx a c) (mn b d) = decide (¬ (mx a c > mn b d)) := by
  simp only [isI, decide_eq_true_eq] at h1 h2
  simp only [isI]
  apply decide_eq_decide.2
  unfold mx mn
  split <;> split <;> omega

theorem FnExactMeetIntervals : laws_FnExactMeetIntervals.Pure := by
  intro a b c d _ _
  unfold laws_FnExactMeetIntervals.f spec_MeetIntervals.f impl_MeetIntervals.f laws_toInterval.f
  simp only [Option.bind_some, spec_isI, impl_isI, spec_max, spec_min]
  cases h1 : isI a b
  · simp [laws_eqInterval.f]
  · cases h2 : isI c d
    · simp [laws_eqInterval.f]
    · simp only [isI_meet a b c d h1 h2]
      by_cases h3 : mx a c > mn b d <;> simp [h3, laws_eqInterval.f]

end Go.Proofs.Ytjfnnnhedeebeaa.Pure

/- Plain lemmas: what the program's and the reference's MeetIntervals return. No condition. -/
import Derived.Test.YthfnnlbppkhhjaaPIsInterval
import Derived.Test.YthfnnlbppkhhjaaZ3
import Derived.Test.YthfnnlbppkhhjaaZ5
namespace Go.Proofs.Ythfnnlbppkhhjaa.Pure
open Go.RowKit Go.Proofs.Ythfnnlbppkhhjaa.Z Go.Proofs.YthfnnlbppkhhjaaW.PrintWords

/-- The meet of two intervals, and whether there is one. -/
def meet (a b c d : Int) : Int × Int × Bool := if isI a b = true ∧ isI c d = true ∧ mx a c ≤ mn b d then (mx a c, mn b d, true) else (0, 0, false)

theorem spec_max (a b : Int) : spec_Max.f a b = some (mx a b) := by
  unfold spec_Max.f mx
  by_cases h : a < b <;> simp [h]

theorem spec_min (a b : Int) : spec_Min.f a b = some (mn a b) := by
  unfold spec_Min.f mn
  by_cases h : b < a <;> simp [h]

theorem isI_meet (a b c d : Int) (h1 : isI a b = true) (h2 : isI c d = true) : isI (mx a c) (mn b d) = decide (mx a c ≤ mn b d) := by
  simp only [isI, decide_eq_true_eq] at h1 h2
  simp only [isI]
  apply decide_eq_decide.2
  unfold mx mn
  split <;> split <;> omega

theorem spec_meet (a b c d : Int) : spec_MeetIntervals.f a b c d = some (meet a b c d) := by
  unfold spec_MeetIntervals.f meet
  simp only [Option.bind_some, spec_isI, spec_max, spec_min]
  cases h1 : isI a b
  · simp
  · cases h2 : isI c d
    · simp
    · simp only [isI_meet a b c d h1 h2]
      by_cases h3 : mx a c ≤ mn b d <;> simp [h3]

theorem impl_meet (a b c d : Int) : impl_MeetIntervals.f a b c d = some (meet a b c d) := by
  unfold impl_MeetIntervals.f meet
  simp only [impl_isI, Option.bind_some]
  cases h1 : isI a b
  · simp
  · cases h2 : isI c d
    · simp
    · by_cases h3 : mx a c ≤ mn b d
      · have : ¬ mx a c > mn b d := by omega
        simp [h3, this]
      · have : mx a c > mn b d := by omega
        simp [h3, this]

end Go.Proofs.Ythfnnlbppkhhjaa.Pure

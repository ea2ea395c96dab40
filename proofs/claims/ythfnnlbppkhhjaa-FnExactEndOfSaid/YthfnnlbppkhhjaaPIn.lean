/- Plain lemma: what the reference's range test answers. No condition. -/
import Derived.Test.YthfnnlbppkhhjaaPBase
import Derived.Test.YthfnnlbppkhhjaaZ3
namespace Go.Proofs.Ythfnnlbppkhhjaa.Pure
open Go.RowKit Go.Proofs.Ythfnnlbppkhhjaa.Z Go.Proofs.YthfnnlbppkhhjaaW.PrintWords

theorem spec_in (n a b : Int) : spec_l1In.f n a b = some (decide (a ≤ n ∧ n ≤ b)) := by
  unfold spec_l1In.f
  by_cases h : a ≤ n <;> simp [h]

end Go.Proofs.Ythfnnlbppkhhjaa.Pure

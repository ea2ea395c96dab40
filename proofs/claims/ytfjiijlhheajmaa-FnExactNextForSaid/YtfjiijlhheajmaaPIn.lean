/- Plain lemma: what the reference's range test answers. No condition. -/
import Derived.Test.YtfjiijlhheajmaaPBase
import Derived.Test.YtfjiijlhheajmaaZ1
namespace Go.Proofs.Ytfjiijlhheajmaa.Pure
open Go.RowKit Go.Proofs.Ytfjiijlhheajmaa.Z Go.Proofs.YtfjiijlhheajmaaW.PrintWords

theorem spec_in (n a b : Int) : spec_l1In.f n a b = some (decide (a ≤ n ∧ n ≤ b)) := by
  unfold spec_l1In.f
  by_cases h : a ≤ n <;> simp [h]

end Go.Proofs.Ytfjiijlhheajmaa.Pure

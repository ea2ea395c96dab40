/- Plain lemma: what the reference's range test answers. No condition. -/
import Derived.Test.YtghippahfkjhhaaPBase
import Derived.Test.YtghippahfkjhhaaZ2
namespace Go.Proofs.Ytghippahfkjhhaa.Pure
open Go.RowKit Go.Proofs.Ytghippahfkjhhaa.Z Go.Proofs.YtghippahfkjhhaaW.PrintWords

theorem spec_in (n a b : Int) : spec_l1In.f n a b = some (decide (a ≤ n ∧ n ≤ b)) := by
  unfold spec_l1In.f
  by_cases h : a ≤ n <;> simp [h]

end Go.Proofs.Ytghippahfkjhhaa.Pure

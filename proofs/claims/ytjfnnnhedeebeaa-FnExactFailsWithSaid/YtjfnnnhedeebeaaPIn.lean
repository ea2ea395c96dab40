/- Plain lemma: what the reference's range test answers. No condition. -/
import Derived.Test.YtjfnnnhedeebeaaPBase
import Derived.Test.YtjfnnnhedeebeaaZ1
namespace Go.Proofs.Ytjfnnnhedeebeaa.Pure
open Go.RowKit Go.Proofs.Ytjfnnnhedeebeaa.Z Go.Proofs.YtjfnnnhedeebeaaW.PrintWords

theorem spec_in (n a b : Int) : spec_l1In.f n a b = some (decide (a ≤ n ∧ n ≤ b)) := by
  unfold spec_l1In.f
  by_cases h : a ≤ n <;> simp [h]

end Go.Proofs.Ytjfnnnhedeebeaa.Pure

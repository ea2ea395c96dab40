/- Plain lemma: what the reference's range test answers. No condition. -/
import Derived.Test.YtlghphhkbobhiaaPBase
import Derived.Test.YtlghphhkbobhiaaZ6
namespace Go.Proofs.Ytlghphhkbobhiaa.Pure
open Go.RowKit Go.Proofs.Ytlghphhkbobhiaa.Z Go.Proofs.YtlghphhkbobhiaaW.PrintWords

theorem spec_in (n a b : Int) : spec_l1In.f n a b = some (decide (a ≤ n ∧ n ≤ b)) := by
  unfold spec_l1In.f
  by_cases h : a ≤ n <;> simp [h]

end Go.Proofs.Ytlghphhkbobhiaa.Pure

/- Plain lemma: what the reference's range test answers. No condition. -/
import Derived.Test.YtlplegdcpgbbbaaPBase
import Derived.Test.YtlplegdcpgbbbaaZ1
namespace Go.Proofs.Ytlplegdcpgbbbaa.Pure
open Go.RowKit Go.Proofs.Ytlplegdcpgbbbaa.Z Go.Proofs.YtlplegdcpgbbbaaW.PrintWords

theorem spec_in (n a b : Int) : spec_l1In.f n a b = some (decide (a ≤ n ∧ n ≤ b)) := by
  unfold spec_l1In.f
  by_cases h : a ≤ n <;> simp [h]

end Go.Proofs.Ytlplegdcpgbbbaa.Pure

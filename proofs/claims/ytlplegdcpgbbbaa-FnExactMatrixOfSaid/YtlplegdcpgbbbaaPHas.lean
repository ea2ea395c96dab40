/- Plain lemma: the reference's search in a list of numbers. Condition: the list is not longer than a list can be. -/
import Derived.Test.YtlplegdcpgbbbaaPFirst
import Derived.Test.YtlplegdcpgbbbaaZ2
namespace Go.Proofs.Ytlplegdcpgbbbaa.Pure
open Go.RowKit Go.Proofs.Ytlplegdcpgbbbaa.Z Go.Proofs.YtlplegdcpgbbbaaW.PrintWords

theorem spec_has (l : List Int) (x : Int) (hl : l.length ≤ 9223372036854775806) : Ev (fun k => spec_l7Has.f k l x) (l.any fun y => decide (y = x)) := by
  unfold spec_l7Has.f
  refine any_loop (fun y => decide (y = x)) l (fun i k => spec_l7Has.l0 k l x (i : Int)) ?_ ?_ ?_
  · refine Ev.step (fun k => by rw [spec_l7Has.l0]) ?_
    exact Ev.ifneg (by omega) (Ev.now _)
  · intro i hi h
    refine Ev.step (fun k => by rw [spec_l7Has.l0]) ?_
    refine Ev.ifpos (by omega) (Ev.ifpos (by omega) ?_)
    rw [rd_get l i hi]
    exact Ev.ifpos (of_decide_eq_true h) (Ev.now _)
  · intro i hi r h hr
    refine Ev.step (fun k => by rw [spec_l7Has.l0]) ?_
    refine Ev.ifpos (by omega) (Ev.ifpos (by omega) ?_)
    rw [rd_get l i hi, wrap_succ (by omega)]
    exact Ev.ifneg (of_decide_eq_false h) hr

end Go.Proofs.Ytlplegdcpgbbbaa.Pure

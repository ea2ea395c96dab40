/- Plain lemma: the node at the end of a path, as the reference finds it. Condition: the lists are not longer than lists can be. -/
import Derived.Test.YtlplegdcpgbbbaaPBase
import Derived.Test.YtlplegdcpgbbbaaPIn
import Derived.Test.YtlplegdcpgbbbaaZ3
namespace Go.Proofs.Ytlplegdcpgbbbaa.Pure
open Go.RowKit Go.Proofs.Ytlplegdcpgbbbaa.Z Go.Proofs.YtlplegdcpgbbbaaW.PrintWords

/-- Where the path leads from x on; -1 where it leaves the network. -/
def endOf (ls : List S93) : Int → List Int → Int
  | x, [] => x
  | x, i :: is => if 0 ≤ i ∧ i < ls.length then (if x = (rd_T93 ls i).f0 then endOf ls (rd_T93 ls i).f1 is else if x = (rd_T93 ls i).f1 then endOf ls (rd_T93 ls i).f0 is else -1) else -1

theorem spec_endOf (n : Int) (ls : List S93) (p : List Int) (x : Int) (hl : ls.length ≤ 9223372036854775806) (hp : p.length ≤ 9223372036854775806) : Ev (fun k => spec_EndOf.f k n ls p x) (endOf ls x p) := by
  unfold spec_EndOf.f
  have hw : wrap64 ((ls.length : Int) - 1) = (ls.length : Int) - 1 := wrap_in (by omega) (by omega)
  refine Ev.up p.length (fun i (s : Int) k => spec_EndOf.l0 k p s (i : Int) n ls) (fun i s => endOf ls s (p.drop i)) (fun _ _ => True) ?_ ?_ 0 x (Nat.zero_le _) trivial
  · intro s _
    rw [List.drop_of_length_le (Nat.le_refl _)]
    refine Ev.step (fun k => by rw [spec_EndOf.l0]) ?_
    exact Ev.ifneg (by omega) (Ev.now _)
  · intro i s hi _ ih
    rw [drop_get _ i hi, endOf]
    refine Ev.step (fun k => by rw [spec_EndOf.l0]) ?_
    refine Ev.ifpos (by omega) (Ev.ifpos (by omega) ?_)
    rw [rd_get p i hi, hw]
    refine Ev.bind0 (spec_in _ _ _) ?_
    by_cases h : 0 ≤ p[i] ∧ p[i] < ls.length
    · rw [if_pos h]
      refine Ev.ifpos (decide_eq_true (by omega)) (Ev.ifpos (by omega) (Ev.ifpos (by omega) ?_))
      rw [wrap_succ (by omega)]
      by_cases h1 : s = (rd_T93 ls p[i]).f0
      · rw [if_pos h1]
        exact Ev.ifpos h1 (ih _ trivial)
      · rw [if_neg h1]
        refine Ev.ifneg h1 ?_
        by_cases h2 : s = (rd_T93 ls p[i]).f1
        · rw [if_pos h2]
          exact Ev.ifpos h2 (ih _ trivial)
        · rw [if_neg h2]
          exact Ev.ifneg h2 (Ev.now _)
    · rw [if_neg h]
      exact Ev.ifneg (by rw [decide_eq_true_iff]; omega) (Ev.now _)

end Go.Proofs.Ytlplegdcpgbbbaa.Pure

/- Plain lemma: what the reference's FailsWith answers. Condition: the lists are not longer than lists can be. -/
import Derived.Test.YthfnnlbppkhhjaaPFirst
import Derived.Test.YthfnnlbppkhhjaaPIn
import Derived.Test.YthfnnlbppkhhjaaZ25
import Derived.Test.YthfnnlbppkhhjaaZ28
namespace Go.Proofs.Ythfnnlbppkhhjaa.Pure
open Go.RowKit Go.Proofs.Ythfnnlbppkhhjaa.Z Go.Proofs.YthfnnlbppkhhjaaW.PrintWords

theorem spec_failsWith (l m : List Int) (hl : l.length ≤ 9223372036854775806) (hm : m.length ≤ 9223372036854775806) : Ev (fun k => spec_FailsWith.f k l m) (m.any (isHit l)) := by
  unfold spec_FailsWith.f
  have hw : wrap64 ((l.length : Int) - 1) = (l.length : Int) - 1 := wrap_in (by omega) (by omega)
  refine any_loop (isHit l) m (fun i k => spec_FailsWith.l0 k l m (i : Int)) ?_ ?_ ?_
  · refine Ev.step (fun k => by rw [spec_FailsWith.l0]) ?_
    exact Ev.ifneg (by omega) (Ev.now _)
  · intro i hi h
    refine Ev.step (fun k => by rw [spec_FailsWith.l0]) ?_
    refine Ev.ifpos (by omega) (Ev.ifpos (by omega) ?_)
    rw [rd_get m i hi, hw]
    refine Ev.bind0 (spec_in _ _ _) ?_
    unfold isHit at h
    by_cases hx : 0 ≤ m[i] ∧ m[i] < (l.length : Int)
    · rw [if_pos hx, beq_iff_eq] at h
      exact Ev.ifpos (decide_eq_true ⟨hx.1, by omega⟩) (Ev.ifpos hx.1 (Ev.ifpos hx.2 (Ev.ifpos h (Ev.now _))))
    · rw [if_neg hx] at h
      exact Bool.noConfusion h
  · intro i hi r h hr
    refine Ev.step (fun k => by rw [spec_FailsWith.l0]) ?_
    refine Ev.ifpos (by omega) (Ev.ifpos (by omega) ?_)
    rw [rd_get m i hi, hw, wrap_succ (by omega)]
    refine Ev.bind0 (spec_in _ _ _) ?_
    unfold isHit at h
    by_cases hx : 0 ≤ m[i] ∧ m[i] < (l.length : Int)
    · rw [if_pos hx, beq_eq_false_iff_ne] at h
      exact Ev.ifpos (decide_eq_true ⟨hx.1, by omega⟩) (Ev.ifpos hx.1 (Ev.ifpos hx.2 (Ev.ifneg h hr)))
    · refine Ev.ifneg ?_ hr
      rw [decide_eq_true_eq]
      omega

end Go.Proofs.Ythfnnlbppkhhjaa.Pure

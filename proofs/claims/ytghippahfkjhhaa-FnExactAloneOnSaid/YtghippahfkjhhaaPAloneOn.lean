/- Plain lemma: what the reference's AloneOn returns. Condition: the list is not longer than a list can be. -/
import Derived.Test.YtghippahfkjhhaaPFirst
import Derived.Test.YtghippahfkjhhaaZ29
import Derived.Test.YtghippahfkjhhaaZ30
namespace Go.Proofs.Ytghippahfkjhhaa.Pure
open Go.RowKit Go.Proofs.Ytghippahfkjhhaa.Z Go.Proofs.YtghippahfkjhhaaW.PrintWords

theorem spec_aloneOn (l : List S106) (a : Int) (hl : l.length ≤ 9223372036854775806) : Ev (fun k => spec_AloneOn.f k l a) (firstAt (isAlone a) l) := by
  unfold spec_AloneOn.f
  have rdP : ∀ i (hi : i < l.length), rd_T106 l (i : Int) = l[i] := fun i hi => getD_get l i _ hi
  refine first_loop (isAlone a) l (fun i k => spec_AloneOn.l0 k l a (i : Int)) ?_ ?_ ?_
  · refine Ev.step (fun k => by rw [spec_AloneOn.l0]) ?_
    exact Ev.ifneg (by omega) (Ev.now _)
  · intro i hi h
    refine Ev.step (fun k => by rw [spec_AloneOn.l0]) ?_
    refine Ev.ifpos (by omega) (Ev.ifpos (by omega) ?_)
    rw [rdP i hi]
    unfold isAlone at h
    rw [Bool.and_eq_true, beq_iff_eq, beq_iff_eq] at h
    exact Ev.ifpos (by omega) (Ev.ifpos (by omega) (Ev.ifpos h.2 (Ev.now _)))
  · intro i hi r h hr
    refine Ev.step (fun k => by rw [spec_AloneOn.l0]) ?_
    refine Ev.ifpos (by omega) (Ev.ifpos (by omega) ?_)
    rw [rdP i hi, wrap_succ (by omega)]
    unfold isAlone at h
    by_cases h1 : l[i].f2.length = 1
    · have h2 : ¬ rd l[i].f2 0 = a := by
        intro e
        rw [h1, e] at h
        simp at h
      exact Ev.ifpos (by omega) (Ev.ifpos (by omega) (Ev.ifneg h2 hr))
    · exact Ev.ifneg (by omega) hr

end Go.Proofs.Ytghippahfkjhhaa.Pure

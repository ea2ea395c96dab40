/- Plain lemma: what the reference's and the program's IsPath answer. Condition: the lists are not longer than lists can be. -/
import Derived.Test.YtlghphhkbobhiaaPHas
import Derived.Test.YtlghphhkbobhiaaPHasI
import Derived.Test.YtlghphhkbobhiaaPEndOf
import Derived.Test.YtlghphhkbobhiaaZ8
import Derived.Test.YtlghphhkbobhiaaZ2
namespace Go.Proofs.Ytlghphhkbobhiaa.Pure
open Go.RowKit Go.Proofs.Ytlghphhkbobhiaa.Z Go.Proofs.YtlghphhkbobhiaaW.PrintWords

def dupAt (p : List Int) (i : Nat) : Bool := (p.take i).any fun y => decide (y = p.getD i 0)
def isPath (ls : List S107) (p : List Int) (a b : Int) : Bool := (List.range p.length).all (fun i => !dupAt p i) && (decide (endOf ls a p = b) && (decide (0 ≤ b) || decide (p.length = 0)))

theorem dupAt_get (p : List Int) (i : Nat) (h : i < p.length) : dupAt p i = (p.take i).any fun y => decide (y = p[i]) := by
  unfold dupAt
  rw [List.getD_eq_getElem?_getD, List.getElem?_eq_getElem h]
  rfl

theorem spec_isPath (n : Int) (ls : List S107) (p : List Int) (a b : Int) (hl : ls.length ≤ 9223372036854775806) (hp : p.length ≤ 9223372036854775806) : Ev (fun k => spec_IsPath.f k n ls p a b) (isPath ls p a b) := by
  unfold spec_IsPath.f isPath
  have key := all_loop (fun i => !dupAt p i) (List.range p.length) (fun i k => spec_IsPath.l0 k p a b (i : Int) n ls) (decide (endOf ls a p = b) && (decide (0 ≤ b) || decide (p.length = 0))) ?_ ?_ ?_
  · exact key
  · rw [List.length_range]
    refine Ev.step (fun k => by rw [spec_IsPath.l0]) ?_
    refine Ev.ifneg (by omega) (Ev.bind (spec_endOf n ls p a hl hp) ?_)
    by_cases h : endOf ls a p = b
    · refine Ev.ifpos h ?_
      rw [decide_eq_true h]
      by_cases h2 : b ≥ 0
      · exact Ev.ifpos h2 (Ev.pure (by simp; omega))
      · refine Ev.ifneg h2 (Ev.pure ?_)
        have : ¬ 0 ≤ b := h2
        rw [decide_eq_false this, Bool.false_or, Bool.true_and]
        by_cases h3 : p.length = 0
        · rw [h3]; rfl
        · rw [decide_eq_false h3, beq_eq_false_iff_ne]; omega
    · exact Ev.ifneg h (Ev.pure (by simp [h]))
  · intro i hi h
    rw [List.length_range] at hi
    rw [List.getElem_range, dupAt_get p i hi] at h
    refine Ev.step (fun k => by rw [spec_IsPath.l0]) ?_
    refine Ev.ifpos (by omega) (Ev.ifpos (by omega) (Ev.ifpos (by omega) ?_))
    rw [rd_get p i hi, Int.toNat_natCast]
    refine Ev.bind (spec_has (p.take i) p[i] (by rw [List.length_take]; omega)) (Ev.ifpos ?_ (Ev.now _))
    simpa using h
  · intro i hi r h hr
    rw [List.length_range] at hi
    rw [List.getElem_range, dupAt_get p i hi] at h
    refine Ev.step (fun k => by rw [spec_IsPath.l0]) ?_
    refine Ev.ifpos (by omega) (Ev.ifpos (by omega) (Ev.ifpos (by omega) ?_))
    rw [rd_get p i hi, Int.toNat_natCast, wrap_succ (by omega)]
    refine Ev.bind (spec_has (p.take i) p[i] (by rw [List.length_take]; omega)) (Ev.ifneg ?_ hr)
    rw [Bool.not_eq_true', ] at h
    rw [h]
    decide

theorem impl_isPath (n : Int) (ls : List S107) (p : List Int) (a b : Int) (hl : ls.length ≤ 9223372036854775806) (hp : p.length ≤ 9223372036854775806) : Ev (fun k => impl_IsPath.f k n ls p a b) (isPath ls p a b) := by
  unfold impl_IsPath.f isPath
  have key := all_loop (fun i => !dupAt p i) (List.range p.length) (fun i k => impl_IsPath.l0 k p a b p (p.length : Int) (i : Int) n ls) (decide (endOf ls a p = b) && (decide (0 ≤ b) || decide (p.length = 0))) ?_ ?_ ?_
  · exact key
  · rw [List.length_range]
    refine Ev.step (fun k => by rw [impl_IsPath.l0]) ?_
    refine Ev.ifneg (by omega) (Ev.bind (impl_endOf n ls p a hl hp) ?_)
    by_cases h : endOf ls a p = b
    · refine Ev.ifpos h ?_
      rw [decide_eq_true h]
      by_cases h2 : p.length = 0
      · exact Ev.ifpos (by omega) (Ev.pure (by simp [h2]))
      · refine Ev.ifneg (by omega) (Ev.pure ?_)
        simp [h2]
    · exact Ev.ifneg h (Ev.pure (by simp [h]))
  · intro i hi h
    rw [List.length_range] at hi
    rw [List.getElem_range, dupAt_get p i hi] at h
    refine Ev.step (fun k => by rw [impl_IsPath.l0]) ?_
    refine Ev.ifpos (by omega) (Ev.ifpos (by omega) (Ev.ifpos (by omega) (Ev.ifpos (by omega) ?_)))
    rw [rd_get p i hi, Int.toNat_natCast]
    refine Ev.bind (impl_has (p.take i) p[i] (by rw [List.length_take]; omega)) (Ev.ifpos ?_ (Ev.now _))
    simpa using h
  · intro i hi r h hr
    rw [List.length_range] at hi
    rw [List.getElem_range, dupAt_get p i hi] at h
    refine Ev.step (fun k => by rw [impl_IsPath.l0]) ?_
    refine Ev.ifpos (by omega) (Ev.ifpos (by omega) (Ev.ifpos (by omega) (Ev.ifpos (by omega) ?_)))
    rw [rd_get p i hi, Int.toNat_natCast, wrap_succ (by omega)]
    refine Ev.bind (impl_has (p.take i) p[i] (by rw [List.length_take]; omega)) (Ev.ifneg ?_ hr)
    rw [Bool.not_eq_true', ] at h
    rw [h]
    decide

end Go.Proofs.Ytlghphhkbobhiaa.Pure

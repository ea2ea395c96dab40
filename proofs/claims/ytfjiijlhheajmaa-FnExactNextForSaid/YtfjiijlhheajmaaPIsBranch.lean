/- Plain lemma: what the reference's and the program's IsBranch answer. Condition: the list is not longer than a list can be. -/
import Derived.Test.YtfjiijlhheajmaaPAll2
import Derived.Test.YtfjiijlhheajmaaPIn
import Derived.Test.YtfjiijlhheajmaaPHas
import Derived.Test.YtfjiijlhheajmaaPDup
import Derived.Test.YtfjiijlhheajmaaPAllIn
import Derived.Test.YtfjiijlhheajmaaPSorted
import Derived.Test.YtfjiijlhheajmaaZ1
import Derived.Test.YtfjiijlhheajmaaZ4
namespace Go.Proofs.Ytfjiijlhheajmaa.Pure
open Go.RowKit Go.Proofs.Ytfjiijlhheajmaa.Z Go.Proofs.YtfjiijlhheajmaaW.PrintWords

def isBranch (n : Int) (l : List Int) : Bool := (List.range l.length).all (fun i => decide (0 ≤ l.getD i 0 ∧ l.getD i 0 ≤ 7) && !dupOf l i) && (decide (0 ≤ n ∧ n ≤ 7) && decide (1 ≤ (l.length : Int) ∧ (l.length : Int) ≤ 4))

theorem spec_isBranch (n : Int) (l : List Int) (hl : l.length ≤ 9223372036854775806) : Ev (fun k => spec_IsBranch.f k n l) (isBranch n l) := by
  unfold spec_IsBranch.f isBranch
  refine all_places l.length _ (fun i k => spec_IsBranch.l0 k (i : Int) n l) _ ?_ ?_
  · refine Ev.step (fun k => by rw [spec_IsBranch.l0]) ?_
    refine Ev.ifneg (by omega) (Ev.bind0 (spec_in _ _ _) ?_)
    cases decide (0 ≤ n ∧ n ≤ 7)
    · exact Ev.ifneg (by decide) (Ev.now _)
    · exact Ev.ifpos rfl (Ev.bind0 (spec_in _ _ _) (Ev.now _))
  · intro i hi r hr
    refine Ev.step (fun k => by rw [spec_IsBranch.l0]) ?_
    refine Ev.ifpos (by omega) (Ev.ifpos (by omega) ?_)
    rw [rd_nat]
    refine Ev.bind0 (spec_in _ _ _) ?_
    cases decide (0 ≤ l.getD i 0 ∧ l.getD i 0 ≤ 7)
    · exact Ev.ifneg (by decide) (Ev.now _)
    · refine Ev.ifpos rfl (Ev.ifpos (by omega) ?_)
      rw [Int.toNat_natCast, wrap_succ (by omega)]
      refine Ev.bind (spec_has (l.take i) _ (by rw [List.length_take]; omega)) ?_
      show Ev (fun k => if dupOf l i = true then some false else _) _
      cases dupOf l i
      · refine Ev.ifneg (by decide) ?_
        simpa using hr
      · exact Ev.ifpos rfl (Ev.now _)

theorem branch_at (i n : Int) : impl_at.f i n = some (decide (0 ≤ i ∧ i < n)) := by
  unfold impl_at.f
  by_cases h : 0 ≤ i
  · rw [if_pos (by omega)]
    simp [h]
  · rw [if_neg (by omega)]
    simp [h]
theorem branch_in (n a b : Int) : impl_InRange.f n a b = some (decide (a ≤ n ∧ n ≤ b)) := by
  unfold impl_InRange.f
  by_cases h1 : a ≤ n <;> by_cases h2 : n ≤ b <;> simp [h1, h2] <;> omega

theorem isBranch_iff (n : Int) (l : List Int) : isBranch n l = (decide (1 ≤ (l.length : Int) ∧ (l.length : Int) ≤ 4) && (decide ((sortedF l).length = l.length) && (decide (0 ≤ n ∧ n < 8) && l.all fun x => decide (0 ≤ x ∧ x ≤ 7)))) := by
  rw [Bool.eq_iff_iff]
  unfold isBranch
  simp only [Bool.and_eq_true, List.all_eq_true, List.mem_range, decide_eq_true_eq, Bool.not_eq_true', sorted_len, nodup_iff_dup]
  constructor
  · rintro ⟨h1, h2, h3⟩
    refine ⟨h3, fun i hi => (h1 i hi).2, by omega, fun x hx => ?_⟩
    obtain ⟨i, hi, rfl⟩ := List.getElem_of_mem hx
    have := (h1 i hi).1
    rwa [List.getD_eq_getElem?_getD, List.getElem?_eq_getElem hi] at this
  · rintro ⟨h1, h2, h3, h4⟩
    refine ⟨fun i hi => ⟨?_, h2 i hi⟩, by omega, h1⟩
    rw [List.getD_eq_getElem?_getD, List.getElem?_eq_getElem hi]
    exact h4 _ (List.getElem_mem hi)

theorem impl_isBranch (n : Int) (l : List Int) (hl : l.length ≤ 17592186044416) : Ev (fun k => impl_IsBranch.f k n l) (isBranch n l) := by
  rw [isBranch_iff]
  unfold impl_IsBranch.f
  refine Ev.bind0 (branch_in _ _ _) ?_
  cases decide (1 ≤ (l.length : Int) ∧ (l.length : Int) ≤ 4)
  · exact Ev.ifneg (by decide) (Ev.now _)
  · refine Ev.ifpos rfl (Ev.bind0 (a := sortedF l) (by unfold impl_sorted.f; rw [if_pos hl]) ?_)
    by_cases h : (sortedF l).length = l.length
    · rw [decide_eq_true h]
      refine Ev.ifpos (by omega) (Ev.bind0 (branch_at _ _) ?_)
      cases decide (0 ≤ n ∧ n < 8)
      · exact Ev.ifneg (by decide) (Ev.now _)
      · exact Ev.ifpos rfl (Ev.bind (impl_allIn l 0 7 (by omega)) (Ev.now _))
    · rw [decide_eq_false h]
      exact Ev.ifneg (by omega) (Ev.now _)

end Go.Proofs.Ytfjiijlhheajmaa.Pure

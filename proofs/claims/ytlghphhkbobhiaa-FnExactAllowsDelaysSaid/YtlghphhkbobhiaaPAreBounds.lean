/- Plain lemmas: what the reference's and the program's IsMatrix and AreBounds answer. Condition: the lists are not longer than lists can be. -/
import Derived.Test.YtlghphhkbobhiaaPAll2
import Derived.Test.YtlghphhkbobhiaaPFirst
import Derived.Test.YtlghphhkbobhiaaPIn
import Derived.Test.YtlghphhkbobhiaaPAllIn
import Derived.Test.YtlghphhkbobhiaaPIsInterval
import Derived.Test.YtlghphhkbobhiaaZ5
import Derived.Test.YtlghphhkbobhiaaZ10
namespace Go.Proofs.Ytlghphhkbobhiaa.Pure
open Go.RowKit Go.Proofs.Ytlghphhkbobhiaa.Z Go.Proofs.YtlghphhkbobhiaaW.PrintWords

def isRowOf (n : Int) (l : List Int) : Bool := decide ((l.length : Int) = n) && l.all fun x => decide (-2 ≤ x ∧ x ≤ 2)
def isMatrix (m : List (List Int)) (n : Int) : Bool := decide (1 ≤ n ∧ n ≤ 6) && (decide (m.length ≤ 12) && m.all (isRowOf n))
def isBitsRow (l : List Int) : Bool := l.all fun x => decide (0 ≤ x ∧ x ≤ 1)
def okBound (x : S93) : Bool := isI x.f0 x.f1 && decide (0 ≤ x.f0)
def areBounds (m : List (List Int)) (b : List S93) (n : Int) : Bool := m.all isBitsRow && (b.all okBound && (isMatrix m n && decide (b.length = m.length)))

theorem rdRow (m : List (List Int)) (i : Nat) (h : i < m.length) : rd_L4 m (i : Int) = m[i] := getD_get m i _ h

theorem spec_isMatrix (m : List (List Int)) (n : Int) (hm : m.length ≤ 9223372036854775806) : Ev (fun k => spec_IsMatrix.f k m n) (isMatrix m n) := by
  unfold spec_IsMatrix.f isMatrix
  refine Ev.bind0 (spec_in _ _ _) ?_
  by_cases h1 : 1 ≤ n ∧ n ≤ 6
  · rw [decide_eq_true h1]
    refine Ev.ifpos rfl ?_
    refine Ev.step (fun k => by rw [spec_IsMatrix.j0]) ?_
    by_cases h2 : m.length ≤ 12
    · rw [decide_eq_true h2]
      refine Ev.ifneg (by rw [decide_eq_true_iff]; omega) ?_
      have key := all_step (isRowOf n) m (fun i k => spec_IsMatrix.l0 k m n (i : Int)) true ?_ ?_
      · simpa using key
      · refine Ev.step (fun k => by rw [spec_IsMatrix.l0]) ?_
        exact Ev.ifneg (by omega) (Ev.now _)
      · intro i hi r hr
        refine Ev.step (fun k => by rw [spec_IsMatrix.l0]) ?_
        refine Ev.ifpos (by omega) (Ev.ifpos (by omega) ?_)
        rw [rdRow m i hi]
        unfold isRowOf
        by_cases h3 : (m[i].length : Int) = n
        · rw [decide_eq_true h3]
          refine Ev.ifpos h3 ?_
          have inner := all_step (fun x : Int => decide (-2 ≤ x ∧ x ≤ 2)) m[i] (fun j k => spec_IsMatrix.l1 k m n (i : Int) (j : Int)) r ?_ ?_
          · simpa using inner
          · refine Ev.step (fun k => by rw [spec_IsMatrix.l1]) ?_
            refine Ev.ifneg (by omega) ?_
            rw [wrap_succ (by omega)]
            exact hr
          · intro j hj q hq
            refine Ev.step (fun k => by rw [spec_IsMatrix.l1]) ?_
            rw [rdRow m i hi]
            refine Ev.ifpos (by omega) (Ev.ifpos (by omega) (Ev.ifpos (by omega) (Ev.ifpos (by omega) (Ev.ifpos (by omega) ?_))))
            rw [rd_get m[i] j hj, wrap_succ (by omega)]
            refine Ev.bind0 (spec_in _ _ _) ?_
            cases decide (-2 ≤ m[i][j] ∧ m[i][j] ≤ 2)
            · exact Ev.ifneg (by decide) (Ev.now _)
            · refine Ev.ifpos rfl ?_
              simpa using hq
        · rw [decide_eq_false h3]
          exact Ev.ifneg h3 (Ev.now _)
    · rw [decide_eq_false h2]
      exact Ev.ifpos (decide_eq_true (by omega)) (Ev.now _)
  · rw [decide_eq_false h1]
    refine Ev.ifneg (by decide) ?_
    refine Ev.step (fun k => by rw [spec_IsMatrix.j0]) ?_
    exact Ev.ifpos rfl (Ev.now _)

theorem in_range (n a b : Int) : impl_InRange.f n a b = some (decide (a ≤ n ∧ n ≤ b)) := by
  unfold impl_InRange.f
  by_cases h1 : a ≤ n <;> by_cases h2 : n ≤ b <;> simp [h1, h2] <;> omega

theorem impl_isMatrix (m : List (List Int)) (n : Int) (hm : m.length ≤ 9223372036854775806) : Ev (fun k => impl_IsMatrix.f k m n) (isMatrix m n) := by
  unfold impl_IsMatrix.f isMatrix
  refine Ev.bind0 (in_range _ _ _) ?_
  by_cases h1 : 1 ≤ n ∧ n ≤ 6
  · rw [decide_eq_true h1]
    refine Ev.ifpos rfl ?_
    refine Ev.step (fun k => by rw [impl_IsMatrix.j0]) ?_
    by_cases h2 : m.length ≤ 12
    · rw [decide_eq_true h2]
      refine Ev.ifneg (by rw [decide_eq_true_iff]; omega) ?_
      have key := all_step (isRowOf n) m (fun i k => impl_IsMatrix.l0 k n m (m.length : Int) (i : Int)) true ?_ ?_
      · simpa using key
      · refine Ev.step (fun k => by rw [impl_IsMatrix.l0]) ?_
        exact Ev.ifneg (by omega) (Ev.now _)
      · intro i hi r hr
        refine Ev.step (fun k => by rw [impl_IsMatrix.l0]) ?_
        refine Ev.ifpos (by omega) (Ev.ifpos (by omega) (Ev.ifpos (by omega) ?_))
        rw [rdRow m i hi]
        unfold isRowOf
        by_cases h3 : (m[i].length : Int) = n
        · rw [decide_eq_true h3]
          refine Ev.ifpos h3 (Ev.bind (impl_allIn m[i] (-2) 2 (by omega)) ?_)
          rw [wrap_succ (by omega)]
          cases m[i].all fun x => decide (-2 ≤ x ∧ x ≤ 2)
          · exact Ev.ifneg (by decide) (Ev.now _)
          · refine Ev.ifpos rfl ?_
            simpa using hr
        · rw [decide_eq_false h3]
          exact Ev.ifneg h3 (Ev.now _)
    · rw [decide_eq_false h2]
      exact Ev.ifpos (decide_eq_true (by omega)) (Ev.now _)
  · rw [decide_eq_false h1]
    refine Ev.ifneg (by decide) ?_
    refine Ev.step (fun k => by rw [impl_IsMatrix.j0]) ?_
    exact Ev.ifpos rfl (Ev.now _)

theorem rdBd (b : List S93) (i : Nat) (h : i < b.length) : rd_T93 b (i : Int) = b[i] := getD_get b i _ h

theorem spec_areBounds (m : List (List Int)) (b : List S93) (n : Int) (hm : m.length ≤ 9223372036854775806) (hr : ∀ x ∈ m, x.length ≤ 9223372036854775806) (hb : b.length ≤ 9223372036854775806) : Ev (fun k => spec_AreBounds.f k m b n) (areBounds m b n) := by
  unfold spec_AreBounds.f areBounds
  refine all_step isBitsRow m (fun i k => spec_AreBounds.l0 k m b n (i : Int)) _ ?_ ?_
  · refine Ev.step (fun k => by rw [spec_AreBounds.l0]) ?_
    refine Ev.ifneg (by omega) ?_
    refine all_step okBound b (fun i k => spec_AreBounds.l2 k m b n (i : Int)) _ ?_ ?_
    · refine Ev.step (fun k => by rw [spec_AreBounds.l2]) ?_
      refine Ev.ifneg (by omega) (Ev.bind (spec_isMatrix m n hm) ?_)
      cases isMatrix m n
      · exact Ev.ifneg (by decide) (Ev.now _)
      · refine Ev.ifpos rfl (Ev.pure ?_)
        rw [Bool.true_and]
        by_cases h : b.length = m.length
        · simp [h]
        · rw [decide_eq_false h, beq_eq_false_iff_ne]
          omega
    · intro i hi r hr
      refine Ev.step (fun k => by rw [spec_AreBounds.l2]) ?_
      refine Ev.ifpos (by omega) (Ev.ifpos (by omega) ?_)
      rw [rdBd b i hi]
      unfold okBound
      refine Ev.bind0 (spec_isI _ _) ?_
      cases isI b[i].f0 b[i].f1
      · exact Ev.ifneg (by decide) (Ev.now _)
      · refine Ev.ifpos rfl ?_
        by_cases h : b[i].f0 < 0
        · rw [decide_eq_false (show ¬ 0 ≤ b[i].f0 by omega)]
          exact Ev.ifpos h (Ev.now _)
        · rw [decide_eq_true (show 0 ≤ b[i].f0 by omega), wrap_succ (by omega)]
          refine Ev.ifneg h ?_
          simpa using hr
  · intro i hi r hr1
    refine Ev.step (fun k => by rw [spec_AreBounds.l0]) ?_
    refine Ev.ifpos (by omega) ?_
    have hlen := hr m[i] (List.getElem_mem hi)
    unfold isBitsRow
    refine all_step (fun x : Int => decide (0 ≤ x ∧ x ≤ 1)) m[i] (fun j k => spec_AreBounds.l1 k m b n (i : Int) (j : Int)) r ?_ ?_
    · refine Ev.step (fun k => by rw [spec_AreBounds.l1]) ?_
      rw [rdRow m i hi]
      refine Ev.ifpos (by omega) (Ev.ifpos (by omega) (Ev.ifneg (by omega) ?_))
      rw [wrap_succ (by omega)]
      exact hr1
    · intro j hj q hq
      refine Ev.step (fun k => by rw [spec_AreBounds.l1]) ?_
      rw [rdRow m i hi]
      refine Ev.ifpos (by omega) (Ev.ifpos (by omega) (Ev.ifpos (by omega) (Ev.ifpos (by omega) ?_)))
      rw [rd_get m[i] j hj, wrap_succ (by omega)]
      refine Ev.bind0 (spec_in _ _ _) ?_
      cases decide (0 ≤ m[i][j] ∧ m[i][j] ≤ 1)
      · exact Ev.ifneg (by decide) (Ev.now _)
      · refine Ev.ifpos rfl ?_
        simpa using hq

theorem notBits_all (m : List (List Int)) : (!(m.any notBits)) = m.all isBitsRow := by
  rw [List.all_eq_not_any_not]
  rfl

theorem isBad_all (b : List S93) : (!(b.any isBadI)) = b.all okBound := by
  rw [List.all_eq_not_any_not]
  rfl

theorem impl_areBounds (m : List (List Int)) (b : List S93) (n : Int) (hm : m.length ≤ 9223372036854775806) : Ev (fun k => impl_AreBounds.f k m b n) (areBounds m b n) := by
  unfold impl_AreBounds.f areBounds
  have hbits : Ev (fun k => impl_isBits.f k m n) (isMatrix m n && m.all isBitsRow) := by
    unfold impl_isBits.f
    rw [← notBits_all]
    exact Ev.bind (impl_isMatrix m n hm) (Ev.now _)
  refine Ev.bind hbits ?_
  have hg : impl_goodIntervals.f b = some (b.all okBound) := by
    unfold impl_goodIntervals.f
    rw [isBad_all]
  cases hA : isMatrix m n
  · exact Ev.ifneg (by simp) (Ev.pure (by simp))
  · cases hB : m.all isBitsRow
    · exact Ev.ifneg (by decide) (Ev.now _)
    · refine Ev.ifpos rfl ?_
      by_cases h : b.length = m.length
      · refine Ev.ifpos (by omega) (Ev.bind0 hg (Ev.pure ?_))
        simp [h]
      · refine Ev.ifneg (by omega) (Ev.pure ?_)
        simp [h]

end Go.Proofs.Ytlghphhkbobhiaa.Pure

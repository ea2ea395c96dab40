/- Plain lemma: the row of a path, as the reference and the program make it. Condition: the path is not longer than a list can be. -/
import Derived.Test.YtlplegdcpgbbbaaPHas
import Derived.Test.YtlplegdcpgbbbaaPIn
import Derived.Test.YtlplegdcpgbbbaaZ2
import Derived.Test.YtlplegdcpgbbbaaZ4
namespace Go.Proofs.Ytlplegdcpgbbbaa.Pure
open Go.RowKit Go.Proofs.Ytlplegdcpgbbbaa.Z Go.Proofs.YtlplegdcpgbbbaaW.PrintWords

/-- A row has a one at each of a path's links. -/
def rowOf (p : List Int) (L : Nat) : List Int := (List.range L).map fun (i : Nat) => if p.any (fun y => decide (y = (i : Int))) = true then 1 else 0
def rowF (p : List Int) (a : Int) : List Int := if 1 ≤ a ∧ a ≤ 6 then rowOf p a.toNat else []

theorem rowOf_length (p : List Int) (L : Nat) : (rowOf p L).length = L := by unfold rowOf; simp
theorem rowOf_get (p : List Int) (L i : Nat) (h : i < (rowOf p L).length) : (rowOf p L)[i] = if p.any (fun y => decide (y = (i : Int))) = true then 1 else 0 := by simp [rowOf]
theorem rowF_length (p : List Int) (a : Int) : (rowF p a).length ≤ 6 := by
  unfold rowF
  split
  · rw [rowOf_length]; omega
  · simp

theorem spec_rowOf (p : List Int) (a : Int) (hp : p.length ≤ 9223372036854775806) : Ev (fun k => spec_RowOf.f k p a) (rowF p a) := by
  unfold spec_RowOf.f
  refine Ev.bind0 (a := []) rfl (Ev.bind0 (spec_in _ _ _) ?_)
  unfold rowF
  by_cases h : 1 ≤ a ∧ a ≤ 6
  · rw [if_pos h]
    refine Ev.ifpos (decide_eq_true h) ?_
    obtain ⟨N, rfl⟩ : ∃ N : Nat, a = (N : Int) := ⟨a.toNat, by omega⟩
    rw [Int.toNat_natCast]
    have key := Ev.up N (fun i (out : List Int) k => spec_RowOf.l0 k p (N : Int) out (i : Int)) (fun i out => out ++ (rowOf p N).drop i) (fun i out => out.length = i) ?_ ?_ 0 [] (Nat.zero_le _) rfl
    · simpa using key
    · intro out _
      rw [List.drop_of_length_le (by rw [rowOf_length]; omega), List.append_nil]
      refine Ev.step (fun k => by rw [spec_RowOf.l0]) ?_
      exact Ev.ifneg (by omega) (Ev.now _)
    · intro i out hi ho ih
      have hl : i < (rowOf p N).length := by rw [rowOf_length]; exact hi
      rw [drop_get _ i hl, rowOf_get]
      refine Ev.step (fun k => by rw [spec_RowOf.l0]) ?_
      refine Ev.ifpos (by omega) (Ev.bind (spec_has p (i : Int) hp) ?_)
      rw [wrap_succ (by omega)]
      by_cases c : p.any (fun y => decide (y = (i : Int))) = true
      · rw [if_pos c]
        have h2 := ih (out ++ [1]) (by simp; omega)
        rw [List.append_assoc] at h2
        exact Ev.ifpos c (Ev.ifpos (by omega) h2)
      · rw [if_neg c]
        have h2 := ih (out ++ [0]) (by simp; omega)
        rw [List.append_assoc] at h2
        exact Ev.ifneg c (Ev.ifpos (by omega) h2)
  · rw [if_neg h]
    exact Ev.ifneg (by rw [decide_eq_true_iff]; exact h) (Ev.now _)

theorem rowOf_snoc (p : List Int) (t : Int) (L : Nat) : rowOf (p ++ [t]) L = if 0 ≤ t ∧ t < L then (rowOf p L).set t.toNat 1 else rowOf p L := by
  split
  · rename_i h
    apply List.ext_getElem
    · simp [rowOf_length]
    · intro i h1 h2
      rw [List.getElem_set, rowOf_get, rowOf_get]
      simp only [List.any_append, List.any_cons, List.any_nil, Bool.or_false, Bool.or_eq_true, decide_eq_true_eq]
      by_cases e : t = (i : Int)
      · subst e
        simp
      · have e2 : ¬ t.toNat = i := by omega
        simp [e, e2]
  · rename_i h
    unfold rowOf
    apply List.map_congr_left
    intro i hi
    have := List.mem_range.1 hi
    have e : ¬ t = (i : Int) := by omega
    simp [e]

theorem row_at (i n : Int) : impl_at.f i n = some (decide (0 ≤ i ∧ i < n)) := by
  unfold impl_at.f
  by_cases h : 0 ≤ i <;> simp [h]
theorem row_in (n a b : Int) : impl_InRange.f n a b = some (decide (a ≤ n ∧ n ≤ b)) := by
  unfold impl_InRange.f
  by_cases h : a ≤ n <;> simp [h]

theorem impl_rowOf (p : List Int) (a : Int) (hp : p.length ≤ 9223372036854775806) : Ev (fun k => impl_RowOf.f k p a) (rowF p a) := by
  unfold impl_RowOf.f
  refine Ev.bind0 (row_in _ _ _) ?_
  unfold rowF
  by_cases h : 1 ≤ a ∧ a ≤ 6
  · rw [if_pos h]
    refine Ev.ifpos (decide_eq_true h) (Ev.ifpos (by omega) (Ev.ifpos (by omega) ?_))
    obtain ⟨N, rfl⟩ : ∃ N : Nat, a = (N : Int) := ⟨a.toNat, by omega⟩
    rw [Int.toNat_natCast]
    have e0 : List.replicate N (0 : Int) = rowOf (p.take 0) N := by
      unfold rowOf
      apply List.ext_getElem <;> simp
    rw [e0]
    refine Ev.up0 p.length (fun i k => impl_RowOf.l0 k (N : Int) (rowOf (p.take i) N) p (p.length : Int) (i : Int)) (fun _ => rowOf p N) ?_ ?_ 0 (Nat.zero_le _)
    · rw [List.take_of_length_le (Nat.le_refl _)]
      refine Ev.step (fun k => by rw [impl_RowOf.l0]) ?_
      exact Ev.ifneg (by omega) (Ev.now _)
    · intro i hi ih
      refine Ev.step (fun k => by rw [impl_RowOf.l0]) ?_
      refine Ev.ifpos (by omega) (Ev.ifpos (by omega) (Ev.ifpos (by omega) ?_))
      rw [rd_get p i hi, wrap_succ (by omega)]
      refine Ev.bind0 (row_at _ _) ?_
      rw [List.take_succ_eq_append_getElem hi, rowOf_snoc] at ih
      by_cases c : 0 ≤ p[i] ∧ p[i] < (N : Int)
      · rw [if_pos c] at ih
        exact Ev.ifpos (decide_eq_true c) (Ev.ifpos c.1 (Ev.ifpos (by rw [rowOf_length]; exact c.2) ih))
      · rw [if_neg c] at ih
        exact Ev.ifneg (by rw [decide_eq_true_iff]; exact c) ih
  · rw [if_neg h]
    exact Ev.ifneg (by rw [decide_eq_true_iff]; exact h) (Ev.now _)

end Go.Proofs.Ytlplegdcpgbbbaa.Pure

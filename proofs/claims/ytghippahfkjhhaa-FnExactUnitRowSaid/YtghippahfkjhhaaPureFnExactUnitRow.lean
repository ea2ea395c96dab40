/- The statement: for every link and every number of links, the program's UnitRow returns the same row as the reference's, in memory of its own. No condition. -/
import Derived.Test.YtghippahfkjhhaaZDefFnExactUnitRow
import Derived.Test.YtghippahfkjhhaaPHFnExactUnitRow
namespace Go.Proofs.Ytghippahfkjhhaa.Pure.UnitRow
open Go.RowKit Go.Proofs.Ytghippahfkjhhaa.Z Go.Proofs.YtghippahfkjhhaaW.PrintWords Go.Proofs.Ytghippahfkjhhaa.Pure

theorem small : ∀ n : Fin 6, ∀ i : Fin 6, i.val < n.val + 1 → (impl_UnitRow.f (i.val : Int) ((n.val : Int) + 1)).isSome = true ∧ ((impl_UnitRow.f (i.val : Int) ((n.val : Int) + 1)).getD []).length ≤ 6 ∧ spec_UnitRow.f 20 (i.val : Int) ((n.val : Int) + 1) = impl_UnitRow.f (i.val : Int) ((n.val : Int) + 1) := by decide +kernel

theorem both (i n : Int) : ∃ r, impl_UnitRow.f i n = some r ∧ Ev (fun k => spec_UnitRow.f k i n) r ∧ r.length ≤ 6 := by
  by_cases h : 1 ≤ n ∧ n ≤ 6 ∧ 0 ≤ i ∧ i < n
  · obtain ⟨h1, h2, h3, h4⟩ := h
    obtain ⟨a, b, c⟩ := small ⟨(n - 1).toNat, by omega⟩ ⟨i.toNat, by omega⟩ (by show i.toNat < (n - 1).toNat + 1; omega)
    have e0 : (((n - 1).toNat : Nat) : Int) + 1 = n := by omega
    have e1 : ((i.toNat : Nat) : Int) = i := by omega
    simp only [e0, e1] at a b c
    obtain ⟨r, hr⟩ := Option.isSome_iff_exists.1 a
    rw [hr] at b c
    exact ⟨r, hr, Ev.of (fun k => spec_UnitRow.mono _ _ k) c, by simpa using b⟩
  · refine ⟨[], ?_, ⟨1, fun k hk => ?_⟩, by simp⟩
    · unfold impl_UnitRow.f impl_InRange.f impl_at.f
      by_cases h1 : 1 ≤ n <;> by_cases h2 : n ≤ 6 <;> by_cases h3 : 0 ≤ i <;> by_cases h4 : i < n <;> first | omega | simp [h1, h2, h3, h4]
    · obtain ⟨k, rfl⟩ : ∃ m, k = m + 1 := ⟨k - 1, by omega⟩
      unfold spec_UnitRow.f spec_l1In.f
      by_cases h1 : 1 ≤ n
      · by_cases h2 : n ≤ 6
        · have hw : wrap64 (n - 1) = n - 1 := by unfold wrap64; omega
          by_cases h3 : 0 ≤ i
          · have h4 : ¬ i ≤ n - 1 := by omega
            simp [h1, h2, h3, h4, hw, spec_UnitRow.j0]
          · simp [h1, h2, h3, spec_UnitRow.j0]
        · simp [h1, h2, spec_UnitRow.j0]
      · simp [h1, spec_UnitRow.j0]

end Go.Proofs.Ytghippahfkjhhaa.Pure.UnitRow
namespace Go.Proofs.Ytghippahfkjhhaa.Pure
open Go.RowKit Go.Proofs.Ytghippahfkjhhaa.Z Go.Proofs.YtghippahfkjhhaaW.PrintWords

theorem FnExactUnitRow : laws_FnExactUnitRow.Pure := by
  intro i n _ _
  obtain ⟨r, hi, hs, hl⟩ := UnitRow.both i n
  refine Ev.rounds ?_
  unfold laws_FnExactUnitRow.f
  have he := eq_IntS r (by unfold maxLen; omega)
  have hm := mark_IntS r 1 (by omega) (by omega)
  have hh := held_IntS r.length 1 (by omega) (by omega)
  refine Ev.bind hs (Ev.bind0 hi (Ev.bind he (Ev.ifpos rfl ?_)))
  refine Ev.bind hm (Ev.bind hh (Ev.ifneg (by omega) (Ev.ifpos rfl ?_)))
  exact Ev.bind0 hi (Ev.bind he (Ev.ifpos rfl (Ev.bind hh (Ev.ifneg (by omega) (Ev.ifpos rfl (Ev.now _))))))

end Go.Proofs.Ytghippahfkjhhaa.Pure

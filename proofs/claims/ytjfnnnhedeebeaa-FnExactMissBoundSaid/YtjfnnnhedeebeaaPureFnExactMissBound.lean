/- The statement: for every n and every number of tries, the program's MissBound returns the same two numbers as the reference's. No condition. -/
import Derived.Test.YtjfnnnhedeebeaaPFnExactMissBoundx1
namespace Go.Proofs.Ytjfnnnhedeebeaa.Pure
open Go.RowKit Go.Proofs.Ytjfnnnhedeebeaa.PFnExactMissBound Go.Proofs.YtjfnnnhedeebeaaW.PrintWords Go.Proofs.YtjfnnnhedeebeaaW.PrintLast

theorem miss_small : ∀ n : Fin 4, ∀ t : Fin 21, laws_FnExactMissBound.f 30 ((n.val : Int) + 1) (t.val : Int) = some true := by decide +kernel

theorem miss_far (a0 a1 : Int) (h : ¬ (1 ≤ a0 ∧ a0 ≤ 4 ∧ 0 ≤ a1 ∧ a1 ≤ 20)) : laws_FnExactMissBound.f 30 a0 a1 = some true := by
  unfold laws_FnExactMissBound.f spec_MissBound.f impl_MissBound.f spec_l1In.f impl_InRange.f
  by_cases h1 : 1 ≤ a0
  · by_cases h2 : a0 ≤ 4
    · by_cases h3 : 0 ≤ a1
      · have h4 : ¬ a1 ≤ 20 := by omega
        simp [h1, h2, h3, h4, spec_MissBound.j0, impl_MissBound.j0]
      · simp [h1, h2, h3, spec_MissBound.j0, impl_MissBound.j0]
    · simp [h1, h2, spec_MissBound.j0, impl_MissBound.j0]
  · simp [h1, spec_MissBound.j0, impl_MissBound.j0]

theorem FnExactMissBound : laws_FnExactMissBound.Pure := by
  intro a0 a1 _ _
  refine ⟨30, ?_⟩
  by_cases h : 1 ≤ a0 ∧ a0 ≤ 4 ∧ 0 ≤ a1 ∧ a1 ≤ 20
  · obtain ⟨h1, h2, h3, h4⟩ := h
    have := miss_small ⟨(a0 - 1).toNat, by omega⟩ ⟨a1.toNat, by omega⟩
    have e0 : (((a0 - 1).toNat : Nat) : Int) + 1 = a0 := by omega
    have e1 : ((a1.toNat : Nat) : Int) = a1 := by omega
    simp only [e0, e1] at this
    exact this
  · exact miss_far a0 a1 h

end Go.Proofs.Ytjfnnnhedeebeaa.Pure

/- The statement: for every n and every percentage, the program's TriesFor returns the same number as the reference's. No condition. -/
import Derived.Test.YtghippahfkjhhaaZDefFnExactTriesFor
import Derived.Test.YtghippahfkjhhaaPBase
namespace Go.Proofs.Ytghippahfkjhhaa.Pure.TriesFor
open Go.RowKit Go.Proofs.Ytghippahfkjhhaa.Z Go.Proofs.YtghippahfkjhhaaW.PrintWords Go.Proofs.Ytghippahfkjhhaa.Pure

theorem miss_small : ∀ n : Fin 4, ∀ t : Fin 21, (spec_MissBound.f 30 ((n.val : Int) + 1) (t.val : Int)).isSome = true ∧ impl_MissBound.f 30 ((n.val : Int) + 1) (t.val : Int) = spec_MissBound.f 30 ((n.val : Int) + 1) (t.val : Int) := by decide +kernel

theorem miss (n : Int) (t : Nat) (h1 : 1 ≤ n) (h2 : n ≤ 4) (ht : t < 21) : ∃ r, Ev (fun k => spec_MissBound.f k n (t : Int)) r ∧ Ev (fun k => impl_MissBound.f k n (t : Int)) r := by
  obtain ⟨h, e⟩ := miss_small ⟨(n - 1).toNat, by omega⟩ ⟨t, ht⟩
  have e0 : (((n - 1).toNat : Nat) : Int) + 1 = n := by omega
  simp only [e0] at h e
  obtain ⟨r, hr⟩ := Option.isSome_iff_exists.1 h
  exact ⟨r, Ev.of (fun k => spec_MissBound.mono _ _ k) hr, Ev.of (fun k => impl_MissBound.mono _ _ k) (e.trans hr)⟩

theorem loops (n p : Int) (h1 : 1 ≤ n) (h2 : n ≤ 4) : ∀ d t : Nat, t + d = 21 → ∃ r, Ev (fun k => spec_TriesFor.l0 k n p (t : Int)) r ∧ Ev (fun k => impl_TriesFor.l0 k n p (t : Int)) r := by
  intro d
  induction d with
  | zero =>
    intro t ht
    refine ⟨-1, ?_, ?_⟩
    · refine Ev.step (fun k => by rw [spec_TriesFor.l0]) ?_
      exact Ev.ifneg (by omega) (Ev.now _)
    · refine Ev.step (fun k => by rw [impl_TriesFor.l0]) ?_
      exact Ev.ifneg (by omega) (Ev.now _)
  | succ d ih =>
    intro t ht
    obtain ⟨m, hs, hi⟩ := miss n t h1 h2 (by omega)
    obtain ⟨r, ihs, ihi⟩ := ih (t + 1) (by omega)
    have hw : wrap64 ((t : Int) + 1) = ((t + 1 : Nat) : Int) := wrap_succ (by omega)
    by_cases hc : wrap64 (100 * m.1) ≤ wrap64 (p * m.2)
    · refine ⟨(t : Int), ?_, ?_⟩
      · refine Ev.step (fun k => by rw [spec_TriesFor.l0]) ?_
        refine Ev.ifpos (by omega) (Ev.bind hs ?_)
        exact Ev.ifpos hc (Ev.now _)
      · refine Ev.step (fun k => by rw [impl_TriesFor.l0]) ?_
        refine Ev.ifpos (by omega) (Ev.bind hi ?_)
        exact Ev.ifpos hc (Ev.now _)
    · refine ⟨r, ?_, ?_⟩
      · refine Ev.step (fun k => by rw [spec_TriesFor.l0]) ?_
        refine Ev.ifpos (by omega) (Ev.bind hs ?_)
        refine Ev.ifneg hc ?_
        rw [hw]
        exact ihs
      · refine Ev.step (fun k => by rw [impl_TriesFor.l0]) ?_
        refine Ev.ifpos (by omega) (Ev.bind hi ?_)
        refine Ev.ifneg hc ?_
        rw [hw]
        exact ihi

theorem both (n p : Int) : ∃ r, Ev (fun k => spec_TriesFor.f k n p) r ∧ Ev (fun k => impl_TriesFor.f k n p) r := by
  by_cases h : 1 ≤ n ∧ n ≤ 4 ∧ 0 ≤ p ∧ p ≤ 100
  · obtain ⟨h1, h2, h3, h4⟩ := h
    obtain ⟨r, hs, hi⟩ := loops n p h1 h2 21 0 (by omega)
    refine ⟨r, ?_, ?_⟩
    · unfold spec_TriesFor.f spec_l1In.f
      simp only [h1, h2, h3, h4, if_true, decide_true, Option.bind_some, Bool.not_true]
      refine Ev.step (fun k => by rw [spec_TriesFor.j0]) ?_
      exact Ev.ifneg (by decide) hs
    · unfold impl_TriesFor.f impl_InRange.f
      simp only [h1, h2, h3, h4, if_true, decide_true, Option.bind_some, Bool.not_true]
      refine Ev.step (fun k => by rw [impl_TriesFor.j0]) ?_
      exact Ev.ifneg (by decide) hi
  · refine ⟨-1, ⟨1, fun k hk => ?_⟩, ⟨1, fun k hk => ?_⟩⟩
    · obtain ⟨k, rfl⟩ : ∃ m, k = m + 1 := ⟨k - 1, by omega⟩
      unfold spec_TriesFor.f spec_l1In.f
      by_cases h1 : 1 ≤ n <;> by_cases h2 : n ≤ 4 <;> by_cases h3 : 0 ≤ p <;> by_cases h4 : p ≤ 100 <;> first | omega | simp [h1, h2, h3, h4, spec_TriesFor.j0]
    · obtain ⟨k, rfl⟩ : ∃ m, k = m + 1 := ⟨k - 1, by omega⟩
      unfold impl_TriesFor.f impl_InRange.f
      by_cases h1 : 1 ≤ n <;> by_cases h2 : n ≤ 4 <;> by_cases h3 : 0 ≤ p <;> by_cases h4 : p ≤ 100 <;> first | omega | simp [h1, h2, h3, h4, impl_TriesFor.j0]

end Go.Proofs.Ytghippahfkjhhaa.Pure.TriesFor
namespace Go.Proofs.Ytghippahfkjhhaa.Pure
open Go.RowKit Go.Proofs.Ytghippahfkjhhaa.Z Go.Proofs.YtghippahfkjhhaaW.PrintWords

theorem FnExactTriesFor : laws_FnExactTriesFor.Pure := by
  intro n p _ _
  obtain ⟨r, hs, hi⟩ := TriesFor.both n p
  refine Ev.rounds ?_
  unfold laws_FnExactTriesFor.f
  exact Ev.bind hs (Ev.bind hi (Ev.ifpos rfl (Ev.now _)))

end Go.Proofs.Ytghippahfkjhhaa.Pure

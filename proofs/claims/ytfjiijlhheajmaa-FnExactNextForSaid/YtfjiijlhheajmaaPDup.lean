/- Plain law: a list has no repeats if no element stands among those before it. No condition. -/
import Derived.Test.YtfjiijlhheajmaaPBase
namespace Go.Proofs.Ytfjiijlhheajmaa.Pure
open Go.RowKit Go.Proofs.YtfjiijlhheajmaaW.PrintWords

def dupOf (p : List Int) (i : Nat) : Bool := (p.take i).any fun y => decide (y = p.getD i 0)
theorem dupOf_get (p : List Int) (i : Nat) (h : i < p.length) : dupOf p i = (p.take i).any fun y => decide (y = p[i]) := by
  unfold dupOf
  rw [List.getD_eq_getElem?_getD, List.getElem?_eq_getElem h]
  rfl
theorem dupOf_iff (p : List Int) (i : Nat) (h : i < p.length) : dupOf p i = true ↔ ∃ j, ∃ hj : j < i, p[j] = p[i] := by
  rw [dupOf_get p i h, List.any_eq_true]
  constructor
  · rintro ⟨x, hx, e⟩
    obtain ⟨j, hj, e2⟩ := List.getElem_of_mem hx
    rw [List.length_take] at hj
    refine ⟨j, by omega, ?_⟩
    rw [List.getElem_take] at e2
    rw [e2]
    exact of_decide_eq_true e
  · rintro ⟨j, hj, e⟩
    refine ⟨p[j], ?_, decide_eq_true e⟩
    have : (p.take i)[j]'(by rw [List.length_take]; omega) = p[j] := List.getElem_take
    rw [← this]
    exact List.getElem_mem _
theorem nodup_iff_dup (p : List Int) : p.Nodup ↔ ∀ i, i < p.length → dupOf p i = false := by
  constructor
  · intro h i hi
    rw [Bool.eq_false_iff]
    intro hd
    obtain ⟨j, hj, e⟩ := (dupOf_iff p i hi).1 hd
    exact (List.pairwise_iff_getElem.1 h) j i (by omega) hi hj e
  · intro h
    refine List.pairwise_iff_getElem.2 (fun i j hi hj hij e => ?_)
    have h1 := h j hj
    rw [Bool.eq_false_iff] at h1
    exact h1 ((dupOf_iff p j hj).2 ⟨i, hij, e⟩)

end Go.Proofs.Ytfjiijlhheajmaa.Pure

/- Plain lemma: the matrix of probes, as the reference and the program make it. Condition: the lists are not longer than the law's can be. -/
import Derived.Test.YtlplegdcpgbbbaaPRowOf
import Derived.Test.YtlplegdcpgbbbaaZ2
import Derived.Test.YtlplegdcpgbbbaaZ4
namespace Go.Proofs.Ytlplegdcpgbbbaa.Pure
open Go.RowKit Go.Proofs.Ytlplegdcpgbbbaa.Z Go.Proofs.YtlplegdcpgbbbaaW.PrintWords

abbrev Pb := S38
def matrixOf (l : List Pb) (a : Int) : List (List Int) := l.map fun p => rowF p.f2 a

theorem rdPb (l : List Pb) (i : Nat) (h : i < l.length) : rd_T38 l (i : Int) = l[i] := getD_get l i _ h

theorem spec_matrixOf (l : List Pb) (a : Int) (hl : l.length ≤ 1048576) (hp : ∀ p ∈ l, p.f2.length ≤ 1048576) : Ev (fun k => spec_MatrixOf.f k l a) (matrixOf l a) := by
  unfold spec_MatrixOf.f
  have key := Ev.up l.length (fun i (out : List (List Int)) k => spec_MatrixOf.l0 k l a out (i : Int)) (fun i out => out ++ matrixOf (l.drop i) a) (fun i out => out.length = i) ?_ ?_ 0 [] (Nat.zero_le _) rfl
  · simpa using key
  · intro out _
    rw [List.drop_of_length_le (Nat.le_refl _)]
    refine Ev.step (fun k => by rw [spec_MatrixOf.l0]) ?_
    exact Ev.ifneg (by omega) (Ev.pure (by unfold matrixOf; simp))
  · intro i out hi ho ih
    rw [drop_get l i hi]
    refine Ev.step (fun k => by rw [spec_MatrixOf.l0]) ?_
    refine Ev.ifpos (by omega) (Ev.ifpos (by omega) ?_)
    rw [rdPb l i hi, wrap_succ (by omega)]
    have h2 := ih (out ++ [rowF l[i].f2 a]) (by simp; omega)
    rw [List.append_assoc] at h2
    exact Ev.bind (spec_rowOf _ _ (by have := hp _ (List.getElem_mem hi); omega)) (Ev.ifpos (by omega) h2)

theorem impl_matrixOf (l : List Pb) (a : Int) (hl : l.length ≤ 1048576) (hp : ∀ p ∈ l, p.f2.length ≤ 1048576) : Ev (fun k => impl_MatrixOf.f k l a) (matrixOf l a) := by
  unfold impl_MatrixOf.f
  have key := Ev.up l.length (fun i (out : List (List Int)) k => impl_MatrixOf.l0 k a out l (l.length : Int) (i : Int)) (fun i out => out ++ matrixOf (l.drop i) a) (fun i out => out.length = i) ?_ ?_ 0 [] (Nat.zero_le _) rfl
  · simpa using key
  · intro out _
    rw [List.drop_of_length_le (Nat.le_refl _)]
    refine Ev.step (fun k => by rw [impl_MatrixOf.l0]) ?_
    exact Ev.ifneg (by omega) (Ev.pure (by unfold matrixOf; simp))
  · intro i out hi ho ih
    rw [drop_get l i hi]
    refine Ev.step (fun k => by rw [impl_MatrixOf.l0]) ?_
    refine Ev.ifpos (by omega) (Ev.ifpos (by omega) (Ev.ifpos (by omega) ?_))
    rw [rdPb l i hi, wrap_succ (by omega)]
    have h2 := ih (out ++ [rowF l[i].f2 a]) (by simp; omega)
    rw [List.append_assoc] at h2
    exact Ev.bind (impl_rowOf _ _ (by have := hp _ (List.getElem_mem hi); omega)) (Ev.ifpos (by omega) h2)

theorem matrixOf_length (l : List Pb) (a : Int) : (matrixOf l a).length = l.length := by unfold matrixOf; simp
theorem matrixOf_rows (l : List Pb) (a : Int) : ∀ r ∈ matrixOf l a, r.length ≤ 6 := by
  intro r hr
  unfold matrixOf at hr
  obtain ⟨p, _, rfl⟩ := List.mem_map.1 hr
  exact rowF_length _ _

end Go.Proofs.Ytlplegdcpgbbbaa.Pure

/- Plain lemmas: what the program's and the reference's Explains answer. Condition: the lists are not longer than lists can be. -/
import Derived.Test.YthfnnlbppkhhjaaPFailsWith
import Derived.Test.YthfnnlbppkhhjaaZ26
import Derived.Test.YthfnnlbppkhhjaaZ29
namespace Go.Proofs.Ythfnnlbppkhhjaa.Pure
open Go.RowKit Go.Proofs.Ythfnnlbppkhhjaa.Z Go.Proofs.YthfnnlbppkhhjaaW.PrintWords

theorem rdRow (xs : List (List Int)) (i : Nat) (h : i < xs.length) : rd_L3 xs (i : Int) = xs[i] := getD_get xs i _ h
theorem rdBool (xs : List Bool) (i : Nat) (h : i < xs.length) : rdOf false xs (i : Int) = xs[i] := getD_get xs i _ h

/-- Does row i fail with the links just where it is told bad? -/
def explOk (m : List (List Int)) (bad : List Bool) (s : List Int) (i : Nat) : Bool := s.any (isHit (rd_L3 m (i : Int))) == rdOf false bad (i : Int)
def explains (m : List (List Int)) (bad : List Bool) (s : List Int) : Bool := decide (bad.length = m.length) && (List.range m.length).all (explOk m bad s)

theorem spec_explains (m : List (List Int)) (bad : List Bool) (s : List Int) (hm : m.length ≤ 1048576) (hx : ∀ x ∈ m, x.length ≤ 1048576) (hs : s.length ≤ 1048576) : Ev (fun k => spec_Explains.f k m bad s) (explains m bad s) := by
  unfold spec_Explains.f explains
  by_cases hb : bad.length = m.length
  · rw [decide_eq_true hb, Bool.true_and]
    refine Ev.ifpos (by omega) ?_
    have key := Ev.up0 m.length (fun i k => spec_Explains.l0 k m bad s (i : Int)) (fun i => ((List.range m.length).drop i).all (explOk m bad s)) ?_ ?_ 0 (Nat.zero_le _)
    · simpa using key
    · rw [List.drop_of_length_le (by simp)]
      refine Ev.step (fun k => by rw [spec_Explains.l0]) ?_
      exact Ev.ifneg (by omega) (Ev.now _)
    · intro i hi ih
      rw [drop_get _ i (by simpa using hi), List.all_cons, List.getElem_range]
      generalize ((List.range m.length).drop (i + 1)).all (explOk m bad s) = r at ih ⊢
      refine Ev.step (fun k => by rw [spec_Explains.l0]) ?_
      refine Ev.ifpos (by omega) (Ev.ifpos (by omega) ?_)
      unfold explOk
      rw [rdRow m i hi, rdBool bad i (by omega)]
      refine Ev.bind (spec_failsWith m[i] s (by have := hx _ (List.getElem_mem hi); omega) (by omega)) (Ev.ifpos (by omega) ?_)
      rw [wrap_succ (by omega)]
      cases he : (s.any (isHit m[i]) == bad[i]'(by omega))
      · refine Ev.ifpos ?_ (Ev.pure (by simp))
        simpa [bne] using he
      · refine Ev.ifneg ?_ (by simpa using ih)
        simpa [bne] using he
  · rw [decide_eq_false hb, Bool.false_and]
    exact Ev.ifneg (by omega) (Ev.now _)

theorem impl_explains (m : List (List Int)) (bad : List Bool) (s : List Int) (hm : m.length ≤ 1048576) : Ev (fun k => impl_Explains.f k m bad s) (explains m bad s) := by
  unfold impl_Explains.f explains
  by_cases hb : bad.length = m.length
  · rw [decide_eq_true hb, Bool.true_and]
    refine Ev.ifpos (by omega) ?_
    have key := Ev.up0 m.length (fun i k => impl_Explains.l0 k bad s m (m.length : Int) (i : Int)) (fun i => ((List.range m.length).drop i).all (explOk m bad s)) ?_ ?_ 0 (Nat.zero_le _)
    · simpa using key
    · rw [List.drop_of_length_le (by simp)]
      refine Ev.step (fun k => by rw [impl_Explains.l0]) ?_
      exact Ev.ifneg (by omega) (Ev.now _)
    · intro i hi ih
      rw [drop_get _ i (by simpa using hi), List.all_cons, List.getElem_range]
      generalize ((List.range m.length).drop (i + 1)).all (explOk m bad s) = r at ih ⊢
      refine Ev.step (fun k => by rw [impl_Explains.l0]) ?_
      refine Ev.ifpos (by omega) (Ev.ifpos (by omega) (Ev.ifpos (by omega) ?_))
      unfold explOk
      rw [rdRow m i hi, rdBool bad i (by omega)]
      refine Ev.bind0 rfl (Ev.ifpos (by omega) ?_)
      rw [wrap_succ (by omega)]
      cases he : (s.any (isHit m[i]) == bad[i]'(by omega))
      · refine Ev.ifpos ?_ (Ev.pure (by simp))
        simpa [bne] using he
      · refine Ev.ifneg ?_ (by simpa using ih)
        simpa [bne] using he
  · rw [decide_eq_false hb, Bool.false_and]
    exact Ev.ifneg (by omega) (Ev.now _)

end Go.Proofs.Ythfnnlbppkhhjaa.Pure

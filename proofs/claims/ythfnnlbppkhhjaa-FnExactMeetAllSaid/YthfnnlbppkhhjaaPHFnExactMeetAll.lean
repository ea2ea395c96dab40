/- Plain lemmas on the laws' own helpers: copies, comparisons, sizes, marks. No condition. -/
import Derived.Test.YthfnnlbppkhhjaaPBase
import Derived.Test.YthfnnlbppkhhjaaZ2
import Derived.Test.YthfnnlbppkhhjaaZ5
import Derived.Test.YthfnnlbppkhhjaaZ6
import Derived.Test.YthfnnlbppkhhjaaZ7
namespace Go.Proofs.Ythfnnlbppkhhjaa.Pure
open Go.RowKit Go.Proofs.Ythfnnlbppkhhjaa.Z Go.Proofs.YthfnnlbppkhhjaaW.PrintWords
set_option linter.unusedSimpArgs false
set_option linter.unusedVariables false
def smL {α : Type} (sm : α → Prop) (l : List α) : Prop := l.length ≤ 1048576 ∧ ∀ x ∈ l, sm x
def okLen {α : Type} (l : List α) : Prop := l.length ≤ maxLen
def smS75 (x : S75) : Prop := (fun _ => True) x.f0 ∧ (fun _ => True) x.f1
theorem sz_IntervalS (l : List S75) (hl : l.length ≤ maxLen) (s : Int) (h0 : 0 ≤ s) (h1 : s ≤ 1048576) : ∃ r : Int, laws_szIntervalS.f l s = some r ∧ (0 ≤ r → r ≤ s ∧ (smL smS75) l) := by
  unfold maxLen at hl
  unfold laws_szIntervalS.f
  rw [wrap_in (by omega) (by omega)]
  by_cases h : s - (l.length : Int) < 0
  · exact ⟨-1, by rw [if_pos h], fun h => by omega⟩
  · exact ⟨s - (l.length : Int), by rw [if_neg h], fun _ => ⟨by omega, by omega, fun _ _ => ⟨trivial, trivial⟩⟩⟩
def c75_25 (x : S75) : S25 := ⟨x.f0, x.f1⟩
theorem to_Interval (x : S75) : laws_toInterval.f x.f0 x.f1 = some ((c75_25 x).f0, (c75_25 x).f1) := rfl
theorem rd_T75_get (xs : List S75) (i : Nat) (h : i < xs.length) : rd_T75 xs (i : Int) = xs[i] := getD_get xs i _ h
theorem to_IntervalS (l : List S75) (h : (smL smS75) l) : Ev (fun k => laws_toIntervalS.f k l) (l.map c75_25) := by
  unfold laws_toIntervalS.f
  have hl := h.1
  refine Ev.ifpos (by omega) (Ev.ifpos (by omega) ?_)
  rw [Int.toNat_natCast]
  have key := copy_loop l c75_25 (fun i s k => laws_toIntervalS.l0 k l s (i : Int)) ?_ ?_ (List.replicate l.length z25) (by simp)
  · exact key
  · intro s
    refine Ev.step (fun k => by rw [laws_toIntervalS.l0]) ?_
    exact Ev.ifneg (by omega) (Ev.now _)
  · intro i hi s r hs hr
    refine Ev.step (fun k => by rw [laws_toIntervalS.l0]) ?_
    refine Ev.ifpos (by omega) (Ev.ifpos (by omega) ?_)
    rw [rd_T75_get l i hi]
    refine Ev.bind0 (to_Interval l[i]) ?_
    refine Ev.ifpos (by omega) ?_
    rw [wrap_succ (by omega), Int.toNat_natCast]
    exact hr
theorem eq_Interval (x : S25) : laws_eqInterval.f x.f0 x.f1 x.f0 x.f1 = some true := by
  unfold laws_eqInterval.f
  simp
theorem rd_T25_get (xs : List S25) (i : Nat) (h : i < xs.length) : rd_T25 xs (i : Int) = xs[i] := getD_get xs i _ h
theorem eq_IntervalS (l : List S25) (h : l.length ≤ maxLen) : Ev (fun k => laws_eqIntervalS.f k l l) true := by
  unfold maxLen at h
  unfold laws_eqIntervalS.f
  refine Ev.ifpos rfl ?_
  exact Ev.up0 l.length (fun i k => laws_eqIntervalS.l0 k l l (i : Int)) (fun _ => true)
    (Ev.step (fun k => by rw [laws_eqIntervalS.l0]) (Ev.ifneg (by omega) (Ev.now _)))
    (fun i hi ih => by
      refine Ev.step (fun k => by rw [laws_eqIntervalS.l0]) ?_
      refine Ev.ifpos (by omega) (Ev.ifpos (by omega) (Ev.ifpos (by omega) ?_))
      rw [rd_T25_get l i hi]
      refine Ev.bind0 (eq_Interval l[i]) (Ev.ifpos rfl ?_)
      rw [wrap_succ (by omega)]
      exact ih) 0 (Nat.zero_le _)
end Go.Proofs.Ythfnnlbppkhhjaa.Pure

/- Plain lemmas on the laws' own helpers: copies, comparisons, sizes, marks. No condition. -/
import Derived.Test.YtjfnnnhedeebeaaPBase
import Derived.Test.YtjfnnnhedeebeaaZ5
import Derived.Test.YtjfnnnhedeebeaaZ7
namespace Go.Proofs.Ytjfnnnhedeebeaa.Pure
open Go.RowKit Go.Proofs.Ytjfnnnhedeebeaa.Z Go.Proofs.YtjfnnnhedeebeaaW.PrintWords
set_option linter.unusedSimpArgs false
set_option linter.unusedVariables false
def smL {α : Type} (sm : α → Prop) (l : List α) : Prop := l.length ≤ 1048576 ∧ ∀ x ∈ l, sm x
def okLen {α : Type} (l : List α) : Prop := l.length ≤ maxLen
theorem to_IntS (l : List Int) (h : (smL (fun _ => True)) l) : Ev (fun k => laws_toIntS.f k l) (l) := by
  unfold laws_toIntS.f
  have hl := h.1
  refine Ev.ifpos (by omega) (Ev.ifpos (by omega) ?_)
  rw [Int.toNat_natCast]
  have key := copy_loop l id (fun i s k => laws_toIntS.l0 k l s (i : Int)) ?_ ?_ (List.replicate l.length 0) (by simp)
  · rw [List.map_id] at key; exact key
  · intro s
    refine Ev.step (fun k => by rw [laws_toIntS.l0]) ?_
    exact Ev.ifneg (by omega) (Ev.now _)
  · intro i hi s r hs hr
    refine Ev.step (fun k => by rw [laws_toIntS.l0]) ?_
    refine Ev.ifpos (by omega) (Ev.ifpos (by omega) ?_)
    refine Ev.ifpos (by omega) ?_
    rw [rd_get l i hi, wrap_succ (by omega), Int.toNat_natCast]
    exact hr
theorem eq_IntS (l : List Int) (h : l.length ≤ maxLen) : Ev (fun k => laws_eqIntS.f k l l) true := by
  unfold maxLen at h
  unfold laws_eqIntS.f
  refine Ev.ifpos rfl ?_
  exact Ev.up0 l.length (fun i k => laws_eqIntS.l0 k l l (i : Int)) (fun _ => true)
    (Ev.step (fun k => by rw [laws_eqIntS.l0]) (Ev.ifneg (by omega) (Ev.now _)))
    (fun i hi ih => by
      refine Ev.step (fun k => by rw [laws_eqIntS.l0]) ?_
      refine Ev.ifpos (by omega) (Ev.ifpos (by omega) (Ev.ifpos (by omega) ?_))
      refine Ev.ifpos rfl ?_
      rw [wrap_succ (by omega)]
      exact ih) 0 (Nat.zero_le _)
end Go.Proofs.Ytjfnnnhedeebeaa.Pure

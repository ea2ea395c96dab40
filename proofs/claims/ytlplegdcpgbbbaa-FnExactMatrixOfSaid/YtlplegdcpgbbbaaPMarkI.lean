/- Plain lemmas: marks of numbers, and what holds them; the middle of a list. Condition: the numbers fit. -/
import Derived.Test.YtlplegdcpgbbbaaPBase
import Derived.Test.YtlplegdcpgbbbaaZ1
import Derived.Test.YtlplegdcpgbbbaaZ10
namespace Go.Proofs.Ytlplegdcpgbbbaa.Pure
open Go.RowKit Go.Proofs.Ytlplegdcpgbbbaa.Z Go.Proofs.YtlplegdcpgbbbaaW.PrintWords

theorem pm_IntS (l : List Int) (m : Int) (h0 : 0 ≤ m) (h1 : m + ((1 * l.length : Nat) : Int) ≤ 4611686018427387904) : Ev (fun k => laws_markIntS.f k l m) (m + ((1 * l.length : Nat) : Int), marked 1 (fun m => m) m l.length) := by
  unfold laws_markIntS.f
  refine mark_loop 1 (fun m => m) l.length (fun i s m k => laws_markIntS.l0 k s m (i : Int)) ?_ ?_ l m rfl h0 h1
  · intro s m hs
    refine Ev.step (fun k => by rw [laws_markIntS.l0]) ?_
    exact Ev.ifneg (by omega) (Ev.now _)
  · intro i s m r hi hs h0 h1 hr
    refine Ev.step (fun k => by rw [laws_markIntS.l0]) ?_
    refine Ev.ifpos (by omega) (Ev.ifpos (by omega) ?_)
    rw [wrap_succ (by omega), wrap_in (by omega) (by omega), Int.toNat_natCast]
    exact hr

theorem ph_IntS (n : Nat) (m : Int) (h0 : 0 ≤ m) (h1 : m + ((1 * n : Nat) : Int) ≤ 4611686018427387904) : Ev (fun k => laws_heldIntS.f k (marked 1 (fun m => m) m n) m) (m + ((1 * n : Nat) : Int)) := by
  unfold laws_heldIntS.f
  have hn := marked_length 1 (fun m => m) m n
  refine held_loop 1 n m (fun i q k => laws_heldIntS.l0 k (marked 1 (fun m => m) m n) q (i : Int)) ?_ ?_
  · intro q
    refine Ev.step (fun k => by rw [laws_heldIntS.l0]) ?_
    exact Ev.ifneg (by omega) (Ev.now _)
  · intro i r hi hr
    refine Ev.step (fun k => by rw [laws_heldIntS.l0]) ?_
    have hle : ((1 * i : Nat) : Int) + 1 ≤ ((1 * n : Nat) : Int) := by omega
    refine Ev.ifpos (by omega) (Ev.ifpos (by omega) ?_)
    rw [rd_get _ i (by omega), marked_get]
    have w0 : wrap64 (m + ((1 * i : Nat) : Int) + 1) = m + ((1 * i : Nat) : Int) + 1 := wrap_in (by omega) (by omega)
    simp only [w0]
    refine Ev.ifpos (by first | trivial | rfl) ?_
    rw [wrap_succ (by omega)]
    exact hr

theorem getD_mid {α : Type} (a : List α) (x z : α) (b : List α) : (a ++ x :: b).getD ((a.length : Int)).toNat z = x := by
  rw [Int.toNat_natCast, List.getD_eq_getElem?_getD, List.getElem?_append_right (Nat.le_refl _), Nat.sub_self]
  rfl
theorem set_mid {α : Type} (a : List α) (x y : α) (b : List α) : (a ++ x :: b).set ((a.length : Int)).toNat y = (a ++ [y]) ++ b := by
  rw [Int.toNat_natCast, List.set_append_right _ _ (Nat.le_refl _), Nat.sub_self, List.set_cons_zero, List.append_assoc]
  rfl

end Go.Proofs.Ytlplegdcpgbbbaa.Pure

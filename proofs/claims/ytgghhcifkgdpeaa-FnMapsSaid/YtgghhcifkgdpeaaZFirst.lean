/- The first place at which a predicate holds, or -1: plain lemmas. No condition. -/
import Derived.Test.YtgghhcifkgdpeaaWMore
import Derived.WalkKit
import Derived.Deep.LoopGhost
import Derived.Deep.Draws
import Derived.Shelf.Abstract
import Derived.Lib.SliceRun
import Derived.Test.YtgghhcifkgdpeaaProg
namespace Go.Proofs.Ytgghhcifkgdpeaa.Z
open Go.RowKit Go.Proofs.YtgghhcifkgdpeaaW.PrintWords

/-- The first place at which p holds, or -1. -/
def firstAt {α : Type} (p : α → Bool) (xs : List α) : Int := if xs.findIdx p < xs.length then ((xs.findIdx p : Nat) : Int) else -1

theorem firstAt_hit {α : Type} (p : α → Bool) (xs : List α) (k : Nat) (h : k < xs.length) (hp : p xs[k] = true) (hq : ∀ j (hj : j < xs.length), j < k → p xs[j] = false) : firstAt p xs = (k : Int) := by
  have e : xs.findIdx p = k := by
    apply (List.findIdx_eq h).2
    exact ⟨hp, fun j hj => hq j (by omega) hj⟩
  unfold firstAt
  rw [e, if_pos h]

theorem firstAt_miss {α : Type} (p : α → Bool) (xs : List α) (hq : ∀ j (hj : j < xs.length), p xs[j] = false) : firstAt p xs = -1 := by
  unfold firstAt
  rw [if_neg]
  intro h
  have := List.findIdx_getElem (w := h)
  rw [hq _ h] at this
  exact Bool.noConfusion this

theorem firstAt_any {α : Type} (p : α → Bool) (xs : List α) : decide (0 ≤ firstAt p xs) = xs.any p := by
  unfold firstAt
  by_cases h : xs.findIdx p < xs.length
  · rw [if_pos h]
    have : xs.any p = true := List.findIdx_lt_length.1 h |> fun ⟨x, hx, hp⟩ => List.any_eq_true.2 ⟨x, hx, hp⟩
    rw [this]
    simp
  · rw [if_neg h]
    have : xs.any p = false := by
      rw [List.any_eq_false]
      intro x hx hp
      exact h (List.findIdx_lt_length.2 ⟨x, hx, hp⟩)
    rw [this]
    rfl

theorem getD_at {α : Type} (xs : List α) (i : Nat) (z : α) (h : i < xs.length) : xs.getD (i : Int).toNat z = xs[i] := by rw [Int.toNat_natCast, List.getD_eq_getElem?_getD, List.getElem?_eq_getElem h]; rfl

theorem at_int {k : IntKind} {w : World} {A : Option Addr} {n : Nat} {xs : List Int} (h : Kd.C (Kd.int k) w A n xs) (i : Int) (h0 : 0 ≤ i) (h1 : i < n) : ∃ ad, A = some ad ∧ w.cell? (ad.add i.toNat) = some (.int k (rd xs i)) := by
  obtain ⟨ad, c, e, _, hK, hc0⟩ := Kd.C_get h (0 : Int) i h0 h1
  refine ⟨ad, e, ?_⟩
  obtain rfl : c = [.int k (xs.getD i.toNat 0)] := hK
  have := hc0 0 _ rfl
  rw [show (Kd.int k).sz = 1 from rfl, Nat.mul_one, Nat.add_zero] at this
  exact this

end Go.Proofs.Ytgghhcifkgdpeaa.Z

/- The first place at which a predicate holds, or -1: plain lemmas. No condition. -/
import Derived.Test.YtabjcjieniokaaaWMore
import Derived.WalkKit
import Derived.Deep.LoopGhost
import Derived.Deep.Draws
import Derived.Shelf.Abstract
import Derived.Lib.SliceRun
import Derived.Test.YtabjcjieniokaaaProg
namespace Go.Proofs.Ytabjcjieniokaaa.Z
open Go.RowKit Go.Proofs.YtabjcjieniokaaaW.PrintWords

/-- The first place at which p holds, or -1. -/
def firstAt {α : Type} (p : α → Bool) (xs : List α) : Int := if xs.findIdx p < xs.length then ((xs.findIdx p : Nat) : Int) else -1

theorem firstAt_hit {α : Type} (p : α → Bool) (xs : List α) (k : Nat) (h : k < xs.length) (hp : p xs[k] = true) (hq : ∀ j (hj : j < xs.length), j < k → p xs[j] = false) : firstAt p xs = (k : Int) := by
  have e : xs.findIdx p = k := by
    apply (List.findIdx_eq h).2
    exact ⟨hp, fun j hj => hq j (by omega) hj⟩
  unfold firstAt
  rw [e, if_pos h]

theorem firstAt_miss {α : Type} (p : α → Bool) (xs : List α) (hq : ∀ j (hj : j < xs.length), p xs[j] = false) : firstAt p xs = -1 := by
  unfold firstAt
  rw [if_neg]
  intro h
  have := List.findIdx_getElem (w := h)
  rw [hq _ h] at this
  exact Bool.noConfusion this

theorem firstAt_any {α : Type} (p : α → Bool) (xs : List α) : decide (0 ≤ firstAt p xs) = xs.any p := by
  unfold firstAt
  by_cases h : xs.findIdx p < xs.length
  · rw [if_pos h]
    have : xs.any p = true := List.findIdx_lt_length.1 h |> fun ⟨x, hx, hp⟩ => List.any_eq_true.2 ⟨x, hx, hp⟩
    rw [this]
    simp
  · rw [if_neg h]
    have : xs.any p = false := by
      rw [List.any_eq_false]
      intro x hx hp
      exact h (List.findIdx_lt_length.2 ⟨x, hx, hp⟩)
    rw [this]
    rfl

theorem getD_at {α : Type} (xs : List α) (i : Nat) (z : α) (h : i < xs.length) : xs.getD (i : Int).toNat z = xs[i] := by rw [Int.toNat_natCast, List.getD_eq_getElem?_getD, List.getElem?_eq_getElem h]; rfl

theorem at_int {k : IntKind} {w : World} {A : Option Addr} {n : Nat} {xs : List Int} (h : Kd.C (Kd.int k) w A n xs) (i : Int) (h0 : 0 ≤ i) (h1 : i < n) : ∃ ad, A = some ad ∧ w.cell? (ad.add i.toNat) = some (.int k (rd xs i)) := by
  obtain ⟨ad, c, e, _, hK, hc0⟩ := Kd.C_get h (0 : Int) i h0 h1
  refine ⟨ad, e, ?_⟩
  obtain rfl : c = [.int k (xs.getD i.toNat 0)] := hK
  have := hc0 0 _ rfl
  rw [show (Kd.int k).sz = 1 from rfl, Nat.mul_one, Nat.add_zero] at this
  exact this

/-- Does one hold, each being asked? -/
def anyO {α : Type} (g : α → Option Bool) : List α → Option Bool
  | [] => some false
  | x :: xs => (g x).bind fun b => (anyO g xs).bind fun c => some (b || c)

theorem anyO_some {α : Type} (g : α → Option Bool) : ∀ (l : List α) (q : Bool), anyO g l = some q → (∀ x ∈ l, g x = some ((g x).getD false)) ∧ q = l.any (fun x => (g x).getD false)
  | [], q, h => ⟨fun x hx => absurd hx (by simp), by simpa [anyO] using h.symm⟩
  | x :: xs, q, h => by
    obtain ⟨b, hb, h⟩ := Option.bind_eq_some_iff.1 h
    obtain ⟨c, hc, h⟩ := Option.bind_eq_some_iff.1 h
    obtain rfl := Option.some.inj h
    obtain ⟨h1, h2⟩ := anyO_some g xs c hc
    refine ⟨fun y hy => ?_, ?_⟩
    · rcases List.mem_cons.1 hy with rfl | hy
      · rw [hb]; rfl
      · exact h1 y hy
    · rw [List.any_cons, hb, h2]; rfl

theorem anyO_of {α : Type} (g : α → Option Bool) (p : α → Bool) : ∀ (l : List α), (∀ x ∈ l, g x = some (p x)) → anyO g l = some (l.any p)
  | [], _ => rfl
  | x :: xs, h => by
    rw [anyO, h x (List.mem_cons_self ..), anyO_of g p xs (fun y hy => h y (List.mem_cons_of_mem _ hy))]
    rfl

theorem anyO_mono {α : Type} {g g' : α → Option Bool} (h : ∀ x, LeO (g x) (g' x)) : ∀ l : List α, LeO (anyO g l) (anyO g' l)
  | [] => LeO.refl _
  | x :: xs => LeO.bind (h x) (fun _ => LeO.bind (anyO_mono h xs) (fun _ => LeO.refl _))

end Go.Proofs.Ytabjcjieniokaaa.Z

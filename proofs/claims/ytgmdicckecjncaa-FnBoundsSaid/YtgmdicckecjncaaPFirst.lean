/- Plain lemmas: loops that search. No condition. -/
import Derived.Test.YtgmdicckecjncaaPBase
import Derived.Test.YtgmdicckecjncaaZFirst
namespace Go.Proofs.Ytgmdicckecjncaa.Pure
open Go.RowKit Go.Proofs.Ytgmdicckecjncaa.Z Go.Proofs.YtgmdicckecjncaaW.PrintWords

/-- A loop that asks whether all hold. -/
theorem all_loop {α : Type} (p : α → Bool) (xs : List α) (G : Nat → Nat → Option Bool) (r0 : Bool) (hend : Ev (G xs.length) r0) (hbad : ∀ i (hi : i < xs.length), p xs[i] = false → Ev (G i) false)
    (hgood : ∀ i (hi : i < xs.length) r, p xs[i] = true → Ev (G (i + 1)) r → Ev (G i) r) : Ev (G 0) (xs.all p && r0) := by
  have key := Ev.up0 xs.length G (fun i => (xs.drop i).all p && r0)
    (by rw [List.drop_of_length_le (Nat.le_refl _)]; simpa using hend)
    (fun i hi ih => by
      rw [drop_get xs i hi, List.all_cons]
      cases h : p xs[i]
      · simpa using hbad i hi h
      · simpa using hgood i hi _ h ih) 0 (Nat.zero_le _)
  simpa using key

end Go.Proofs.Ytgmdicckecjncaa.Pure

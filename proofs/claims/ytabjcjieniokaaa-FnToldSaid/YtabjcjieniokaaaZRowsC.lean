/- Lists of rows whose rows are another's: what is copied or appended is the rows' places alone. No condition. -/
import Derived.Test.YtabjcjieniokaaaZFirst
import Derived.Test.YtabjcjieniokaaaZ0
namespace Go.Proofs.Ytabjcjieniokaaa.Z
open Go.RowKit Go.Proofs.YtabjcjieniokaaaW.PrintWords

/-- A row that was read in the world w0. -/
def KW (w0 : World) : Kd (List Int) where
  sz := 1
  E := []
  K := fun _ x cs => (Kd.slice 3 (Kd.int .i64)).K w0 x cs
  M := fun _ _ _ x cs => (Kd.slice 3 (Kd.int .i64)).K w0 x cs
  K_len := fun h => (Kd.slice 3 (Kd.int .i64)).K_len h
  K_one := fun h => (Kd.slice 3 (Kd.int .i64)).K_one h
  K_below := fun _ h => h
  K_of_M := fun h => h
  M_mono := fun _ h => h
  M_bound := fun h => h
  M_move := fun _ h => h
  M_lower := fun _ h => h
theorem KW_reads {w w1 : World} {e base n c : Nat} {ok : Nat → Prop} {A : Option Addr} {xs : List (List Int)} (h : (KW w).R e w1 base ok (.slice A n c) xs) (hb : Below w.heap.size w w1) : n = xs.length ∧ n ≤ c ∧ Kd.C (Kd.slice 3 (Kd.int .i64)) w1 A xs.length xs := by
  obtain ⟨h1, h2, h3⟩ := Kd.R_reads' h
  exact ⟨h1, h2, ReadsRow.imp_ h3 (Below.refl _ _) (fun _ _ hp => (Kd.slice 3 (Kd.int .i64)).K_below hb hp)⟩
theorem C_KW {w w1 : World} {n : Nat} {A : Option Addr} {xs : List (List Int)} (h : Kd.C (Kd.slice 3 (Kd.int .i64)) w A n xs) (hb : Below w.heap.size w w1) : ReadsRow ((Kd.slice 3 (Kd.int .i64)).K w) 1 w1 A n xs := ReadsRow.imp_ h hb (fun _ _ hp => hp)
theorem C_oneRow {W : World} {g t c : Nat} {A : Option Addr} {x : List Int} (h : W.heap[g]? = some (.cells #[.slice A x.length c] t (0, 0))) (hc : x.length ≤ c) (hr : Kd.C (Kd.int .i64) W A x.length x) : Kd.C (Kd.slice 3 (Kd.int .i64)) W (some ⟨g, 0, none⟩) 1 [x] := by
  refine ⟨rfl, by decide, fun _ => ⟨⟨g, 0, none⟩, rfl, fun j p hj => ?_⟩⟩
  match j, hj with
  | 0, hj =>
    obtain rfl := Option.some.inj hj
    refine ⟨[.slice A x.length c], rfl, ⟨A, c, rfl, hc, hr⟩, fun i u hi => ?_⟩
    match i, hi with
    | 0, hi =>
      obtain rfl := Option.some.inj hi
      rw [Nat.zero_mul, Nat.add_zero, Addr.add_zero']
      exact (blk_cell h 0).trans rfl
    | i + 1, hi => simp at hi
  | j + 1, hj => simp at hj

end Go.Proofs.Ytabjcjieniokaaa.Z

/- The library's Clone, Sort and Compact at lists of numbers, in the print's words: rows of the call's own. Over the shelf's contracts. -/
import Derived.Test.YtgghhcifkgdpeaaShelf
import Derived.Test.YtgghhcifkgdpeaaZFirst
import Derived.Sort.OwnSortedInts
import Derived.Lib.RowBridge
namespace Go.Proofs.Ytgghhcifkgdpeaa.Z
open Go.Sort (putRow grow Holds)
open Go.RowKit Go.Proofs.YtgghhcifkgdpeaaW.PrintWords Go.Proofs.YtgghhcifkgdpeaaW.PrintLast Go.Proofs.YtgghhcifkgdpeaaW.PrintMore

theorem own_shrink {w : World} {base e g n m cap : Nat} {xs : List Value} (h : w.ownsRow base e 1 (.slice (some ⟨g, 0, none⟩) n cap) n xs) (hm : m ≤ n) : w.ownsRow base e 1 (.slice (some ⟨g, 0, none⟩) m cap) m (xs.take m) := by
  obtain ⟨h1, h2⟩ := h
  rcases h2 with ⟨h2, _⟩ | ⟨g', cap', cur, hv, hg, hh, hn, hc, hs, ht⟩
  · cases h2
  · cases hv
    refine ⟨by rw [List.length_take]; omega, .inr ⟨g, cap, cur, rfl, hg, hh, by omega, hc, hs, ?_⟩⟩
    rw [← ht, List.take_take]
    congr 1
    omega

theorem sort_calls (g cap base : Nat) (l : List Int) (w : World) (ho : w.ownsRow base 3 1 (.slice (some ⟨g, 0, none⟩) l.length cap) l.length (l.map (Value.int .i64))) (hl : l.length ≤ 17592186044416) :
    Calls Try.prog 86 #[.slice (some ⟨g, 0, none⟩) l.length cap] w fun e w' => e = .returned (.tuple #[]) ∧ w'.ownsRow base 3 1 (.slice (some ⟨g, 0, none⟩) l.length cap) l.length ((l.mergeSort fun x y => decide (x ≤ y)).map (Value.int .i64)) ∧ (∀ B, B ≤ base → B ≤ w.heap.size → Below B w w') := by
  rcases ho.2 with ⟨h0, _⟩ | ⟨g', cap', cur, hv, hg, hh, hn, hc, hs, ht⟩
  · cases h0
  cases hv
  rw [Nat.mul_one] at ht
  refine (Try.slices_Sort_int g 0 cap l w (holds_of_blockI hh ht) (Array.getElem?_eq_some_iff.1 hh).1 (by omega)).mono ?_
  rintro e w' ⟨rfl, n, os, rfl⟩
  refine ⟨rfl, ownsRow_sortedI (by simp) hg hh hn hc hs, fun B hB hB2 => ?_⟩
  exact Below.grown (Below.refl B w) (grownBy_sortedI _) hB2 (fun k hk => by cases hk; omega)

theorem compact_calls (g cap base : Nat) (l : List Int) (w : World) (ho : w.ownsRow base 3 1 (.slice (some ⟨g, 0, none⟩) l.length cap) l.length (l.map (Value.int .i64))) (hl : l.length ≤ 17592186044416) :
    Calls Try.prog 87 #[.slice (some ⟨g, 0, none⟩) l.length cap] w fun e w' => e = .returned (.slice (some ⟨g, 0, none⟩) (Lib.compact l).length cap) ∧ w'.ownsRow base 3 1 (.slice (some ⟨g, 0, none⟩) (Lib.compact l).length cap) (Lib.compact l).length ((Lib.compact l).map (Value.int .i64)) ∧ (∀ B, B ≤ base → B ≤ w.heap.size → Below B w w') := by
  have hle := Lib.compact_length_le l
  rcases ho.2 with ⟨h0, _⟩ | ⟨g', cap', cur, hv, hg, hh, hn, hc, hs, ht⟩
  · cases h0
  cases hv
  rw [Nat.mul_one] at ht
  refine (Try.slices_Compact_int g 0 cap l w (holds_of_blockI hh ht) (by omega) hn).mono ?_
  rintro e w' ⟨rfl, q, rfl⟩
  have eg : ∀ W : World, W = grow W #[] := fun W => by simp [grow]
  rw [eg (putRow _ _ _ _ _)]
  refine ⟨rfl, ?_, fun B hB hB2 => ?_⟩
  · have h := own_shrink (m := (Lib.compact l).length) (ownsRow_sortedI (n := q) (os := #[]) (ss := l) (ts := Lib.compact l ++ List.replicate (l.length - (Lib.compact l).length) 0) (by simp; omega) hg hh hn hc hs) hle
    rw [List.map_append, List.take_append_of_le_length (by simp), List.take_of_length_le (by simp)] at h
    exact h
  · exact Below.grown (Below.refl B w) (grownBy_sortedI _) hB2 (fun k hk => by cases hk; omega)

theorem clone_calls (A : Option Addr) (c : Nat) (l : List Int) (w : World) (hr : Kd.C (Kd.int .i64) w A l.length l) (hne : l ≠ []) (hl : l.length ≤ 17592186044416) :
    Calls Try.prog 46 #[.slice A l.length c] w fun e w' => ∃ g cap, e = .returned (.slice (some ⟨g, 0, none⟩) l.length cap) ∧ w'.ownsRow w.heap.size 3 1 (.slice (some ⟨g, 0, none⟩) l.length cap) l.length (l.map (Value.int .i64)) ∧ Below w.heap.size w w' := by
  have hpos : 0 < l.length := List.length_pos_iff.2 hne
  obtain ⟨ad, rfl, h0⟩ := at_int hr 0 (by omega) (by omega)
  obtain ⟨b, off, s⟩ := ad
  cases s with
  | some s =>
    simp [World.cell?, Addr.add] at h0
    split at h0 <;> simp at h0
  | none =>
    have hc : ∀ j, j < l.length → w.cell? ⟨b, off + j, none⟩ = some (.int .i64 (l.getD j 0)) := by
      intro j hj
      obtain ⟨ad, e, h⟩ := at_int hr (j : Int) (by omega) (by omega)
      cases e
      have h : w.cell? (Addr.add ⟨b, off, none⟩ j) = some (.int .i64 (l.getD j 0)) := h
      rcases j with _ | j
      · exact h
      · exact h
    refine (Try.slices_Clone_int b off l.length c l w (Nat.le_refl _) (by omega) hc).mono ?_
    rintro e w' ⟨v, rfl, ho, hn, hb⟩
    obtain ⟨g, cap, rfl⟩ : ∃ g cap, v = .slice (some ⟨g, 0, none⟩) l.length cap := by
      rcases ho.2 with ⟨_, h0⟩ | ⟨g, cap, _, hv, _⟩
      · omega
      · exact ⟨g, cap, hv⟩
    rw [List.take_of_length_le (Nat.le_refl _)] at ho
    exact ⟨g, cap, rfl, ho, hb⟩

theorem row_of_own {w : World} {base : Nat} {v : Value} {l : List Int} (ho : w.ownsRow base 3 1 v l.length (l.map (Value.int .i64))) : Kd.R (Kd.int .i64) 3 w base (fun _ => True) v l := Kd.R_of_own (h1 := fun _ => rfl) ho (fun _ _ => trivial)

end Go.Proofs.Ytgghhcifkgdpeaa.Z

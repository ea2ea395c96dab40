-- Written by this session's wip/mp/mp.py out of the translation. Lean checks it.
import Derived.Test.YtgghhcifkgdpeaaZ0
import Derived.Test.YtgghhcifkgdpeaaZSort
namespace Go.Proofs.Ytgghhcifkgdpeaa.Z
open Go.RowKit Go.Proofs.YtgghhcifkgdpeaaW.PrintWords Go.Proofs.YtgghhcifkgdpeaaW.PrintLast Go.Proofs.YtgghhcifkgdpeaaW.PrintMore
attribute [local go_sem] max2_int min2_int max_two min_two max_three min_three max_four min_four   -- for this text's walks alone
set_option linter.unusedVariables false
set_option linter.unusedSimpArgs false

-- GIVEN
-- FUNCTION loop.example/g00958/impl.sorted
-- ALONE
-- IMPORT Derived.Test.YtgghhcifkgdpeaaZSort
/-! ### impl_sorted: function 57 -/
/-- The numbers in order, each once. -/
def sortedF (l : List Int) : List Int := Lib.compact (l.mergeSort fun x y => decide (x ≤ y))
def impl_sorted.f (l0 : List Int) : Option (List Int) := if l0.length ≤ 17592186044416 then some (sortedF l0) else none

set_option maxRecDepth 100000 in
set_option maxHeartbeats 1000000 in
theorem impl_sorted.none_ (c : Nat) (w : World) : Calls Try.prog 57 #[.slice none 0 c] w fun e w' => ∃ v0_ : Value, e = .returned (v0_) ∧ Kd.R (Kd.int .i64) 3 w' w.heap.size (fun _ => True) v0_ [] ∧ Below w.heap.size w w' := by
  go_enter Try.func57, Try.ntmps57
  go_wp2_with (first
    | (go_at_call 46; refine (Try.slices_Clone_int_nil 0 c w).mono ?_; rintro e w' ⟨rfl, rfl⟩)
    | (go_at_call 86; refine (Try.slices_Sort_int_none _ _ _).mono ?_; rintro e w' ⟨rfl, rfl⟩)
    | (go_at_call 87; refine (Try.slices_Compact_int_empty _ _ _).mono ?_; rintro e w' ⟨rfl, rfl⟩))
  go_ret
  exact ⟨_, rfl, Kd.R_nil _ _ _ _ _, Below.refl _ _⟩

set_option maxRecDepth 100000 in
set_option maxHeartbeats 1000000 in
theorem impl_sorted.zero_ (a : Addr) (c : Nat) (w : World) : Calls Try.prog 57 #[.slice (some a) 0 c] w fun e w' => ∃ v0_ : Value, e = .returned (v0_) ∧ Kd.R (Kd.int .i64) 3 w' w.heap.size (fun _ => True) v0_ [] ∧ Below w.heap.size w w' := by
  have hC : Calls Try.prog 46 #[.slice (some a) 0 c] w fun e w' => ∃ g cap, e = .returned (.slice (some ⟨g, 0, none⟩) 0 cap) ∧ w'.ownsRow w.heap.size 3 1 (.slice (some ⟨g, 0, none⟩) 0 cap) 0 [] ∧ Below w.heap.size w w' := by
    refine (Try.slices_Clone_int_zero a c w).mono ?_
    rintro e w' ⟨v, rfl, ho, hn, hb⟩
    obtain ⟨g, cap, rfl⟩ : ∃ g cap, v = .slice (some ⟨g, 0, none⟩) 0 cap := by
      rcases ho.2 with ⟨h0, _⟩ | ⟨g, cap, _, hv, _⟩
      · exact absurd h0 hn
      · exact ⟨g, cap, hv⟩
    exact ⟨g, cap, rfl, ho, hb⟩
  go_enter Try.func57, Try.ntmps57
  go_wp2_with (first
    | (go_at_call 46; refine hC.mono ?_; rintro e w1 ⟨g, cap, rfl, ho, hb⟩)
    | (go_at_call 86; refine (Try.slices_Sort_int_none _ _ _).mono ?_; rintro e w' ⟨rfl, rfl⟩)
    | (go_at_call 87; refine (Try.slices_Compact_int_empty _ _ _).mono ?_; rintro e w' ⟨rfl, rfl⟩))
  go_ret
  exact ⟨_, rfl, row_of_own (l := []) ho, hb⟩

set_option maxRecDepth 100000 in
set_option maxHeartbeats 1000000 in
theorem impl_sorted.some_ (A : Option Addr) (c : Nat) (l : List Int) (w : World) (hr : Kd.C (Kd.int .i64) w A l.length l) (hne : l ≠ []) (hl : l.length ≤ 17592186044416) :
    Calls Try.prog 57 #[.slice A l.length c] w fun e w' => ∃ v0_ : Value, e = .returned (v0_) ∧ Kd.R (Kd.int .i64) 3 w' w.heap.size (fun _ => True) v0_ (sortedF l) ∧ Below w.heap.size w w' := by
  have hC := clone_calls A c l w hr hne hl
  have hlen : (l.mergeSort fun x y => decide (x ≤ y)).length = l.length := by simp
  have hS := fun g cap W ho => sort_calls g cap w.heap.size l W ho hl
  have hK := fun g cap W ho => compact_calls g cap w.heap.size (l.mergeSort fun x y => decide (x ≤ y)) W ho (by omega)
  rw [hlen] at hK
  clear hr hne hl hlen
  generalize l.length = n at hC hS hK ⊢
  unfold sortedF
  generalize (l.mergeSort fun x y => decide (x ≤ y)) = s at hS hK ⊢
  go_enter Try.func57, Try.ntmps57
  go_wp2_with (first
    | (go_at_call 46; refine hC.mono ?_; rintro e w1 ⟨g, cap, rfl, ho, hb⟩)
    | (go_at_call 86; refine (hS _ _ _ ho).mono ?_; rintro e w2 ⟨rfl, ho2, hb2⟩)
    | (go_at_call 87; refine (hK _ _ _ ho2).mono ?_; rintro e w3 ⟨rfl, ho3, hb3⟩))
  go_ret
  have b2 : Below w.heap.size w1 w2 := hb2 _ (Nat.le_refl _) hb.size
  have b3 : Below w.heap.size w2 w3 := hb3 _ (Nat.le_refl _) (Nat.le_trans hb.size b2.size)
  exact ⟨_, rfl, row_of_own ho3, (hb.trans b2).trans b3⟩

theorem impl_sorted.calls (A0 : Option Addr) (c0 : Nat) (l0 : List Int) (r : List Int) (w : World) (hr0 : Kd.C (Kd.int .i64) w A0 l0.length l0) (hc0 : l0.length ≤ c0) (h : impl_sorted.f l0 = some r) :
    Calls Try.prog 57 #[.slice A0 l0.length c0] w fun e w' => ∃ v0_ : Value, e = .returned (v0_) ∧ Kd.R (Kd.int .i64) 3 w' w.heap.size (fun _ => True) v0_ r ∧ Below w.heap.size w w' := by
  unfold impl_sorted.f at h
  by_cases hl : l0.length ≤ 17592186044416
  · rw [if_pos hl] at h
    obtain rfl := Option.some.inj h
    by_cases hne : l0 = []
    · subst hne
      have e : sortedF [] = [] := by unfold sortedF; rw [List.mergeSort_nil]; rfl
      rw [e]
      cases A0 with
      | none => exact impl_sorted.none_ c0 w
      | some a => exact impl_sorted.zero_ a c0 w
    · exact impl_sorted.some_ A0 c0 l0 w hr0 hne hl
  · rw [if_neg hl] at h
    cases h

end Go.Proofs.Ytgghhcifkgdpeaa.Z

-- Written by this session's wip/mp/mp.py out of the translation. Lean checks it.
import Derived.Test.YtcdlhjfiboomkaaZ0
import Derived.Test.YtcdlhjfiboomkaaZ5
import Derived.Test.YtcdlhjfiboomkaaZReduce
namespace Go.Proofs.Ytcdlhjfiboomkaa.Z
open Go.RowKit Go.Proofs.YtcdlhjfiboomkaaW.PrintWords Go.Proofs.YtcdlhjfiboomkaaW.PrintLast Go.Proofs.YtcdlhjfiboomkaaW.PrintMore
attribute [local go_sem] max2_int min2_int max_two min_two max_three min_three max_four min_four   -- for this text's walks alone
set_option linter.unusedVariables false
set_option linter.unusedSimpArgs false

-- GIVEN
-- FUNCTION loop.example/g00958/spec.l5Both rounds
-- ALONE
-- EXTRA loop.example/g00958/spec.IsMatrix
-- INFO 25
-- IMPORT Derived.Test.YtcdlhjfiboomkaaZRowsC
/-! ### spec_l5Both: function 76 -/
def spec_l5Both.f (k : Nat) (l0 : List (List Int)) (l1 : List Int) : Option Bool := (spec_IsMatrix.f k l0 (l1.length : Int)).bind fun b1 => if b1 = true then ((spec_IsMatrix.f k [l1] (l1.length : Int)).bind fun b2 => some b2) else some false
theorem spec_l5Both.mono : ∀ a0 a1 k, LeO (spec_l5Both.f k a0 a1) (spec_l5Both.f (k + 1) a0 a1) := fun a0 a1 k => LeO.bind (spec_IsMatrix.mono _ _ _) (fun _ => LeO.ite (LeO.bind (spec_IsMatrix.mono _ _ _) (fun _ => LeO.refl _)) (LeO.refl _))

set_option maxRecDepth 100000 in
set_option maxHeartbeats 2000000 in
theorem spec_l5Both.calls (k : Nat) (A0 : Option Addr) (c0 : Nat) (l0 : List (List Int)) (A1 : Option Addr) (c1 : Nat) (l1 : List Int) (r : Bool) (w : World) (hr0 : Kd.C (Kd.slice 3 (Kd.int .i64)) w A0 l0.length l0) (hc0 : l0.length ≤ c0) (hr1 : Kd.C (Kd.int .i64) w A1 l1.length l1) (hc1 : l1.length ≤ c1) (h : spec_l5Both.f k l0 l1 = some r) :
    Calls Try.prog 76 #[.slice A0 l0.length c0, .slice A1 l1.length c1] w fun e w' => e = .returned (.bool r) ∧ Below w.heap.size w w' := by
  unfold spec_l5Both.f at h
  obtain ⟨b1, h1, h⟩ := Option.bind_eq_some_iff.1 h
  have HM1 := Aside0.mk (fun (W : World) (hb : Below w.heap.size w W) => spec_IsMatrix.calls k A0 c0 l0 (l1.length : Int) b1 W (Kd.C_below hr0 hb) hc0 h1)
  cases b1 with
  | false =>
    rw [if_neg (by decide)] at h
    obtain rfl := Option.some.inj h
    clear h h1 hr0 hc0 hr1 hc1
    go_enter Try.func76, Try.ntmps76
    go_wp2_with (first | (go_at_call 42; (with_reducible refine (HM1.out _ ?m1).mono ?_); (case m1 => exact (by repeat (first | exact Below.refl _ _ | (with_reducible first | apply below_alloc | apply pw_below_drewN | apply below_drew1)))); rintro e w5 ⟨rfl, ⟨nd, rfl⟩⟩))
    go_ret
    exact ⟨rfl, (by repeat (first | exact Below.refl _ _ | (with_reducible first | apply below_alloc | apply pw_below_drewN | apply below_drew1)))⟩
  | true =>
    rw [if_pos rfl] at h
    obtain ⟨b2, h2, h⟩ := Option.bind_eq_some_iff.1 h
    obtain rfl := Option.some.inj h
    have HM2 := Aside0.mk (fun (W : World) (A' : Option Addr) (c' : Nat) (hC : Kd.C (Kd.slice 3 (Kd.int .i64)) W A' 1 [l1]) (hc : 1 ≤ c') => (show Calls Try.prog 42 #[.slice A' 1 c', .int .i64 (l1.length : Int)] W fun e w' => e = .returned (.bool b2) ∧ Drawn0 W w' from spec_IsMatrix.calls k A' c' [l1] (l1.length : Int) b2 W hC hc h2))
    have HR1 := Aside0.mk hr1
    have HC1 := Aside0.mk hc1
    clear h h1 h2 hr0 hc0 hr1 hc1
    go_enter Try.func76, Try.ntmps76
    go_wp2_with (first | (go_at_call 42; (with_reducible refine (HM1.out _ ?m1).mono ?_); (case m1 => exact (by repeat (first | exact Below.refl _ _ | (with_reducible first | apply below_alloc | apply pw_below_drewN | apply below_drew1)))); rintro e w5 ⟨rfl, ⟨nd, rfl⟩⟩) | (go_at_call 42; (with_reducible refine (HM2.out _ _ _ ?m2 ?m3).mono ?_); (case m3 => exact Nat.le_refl 1); (case m2 => exact C_oneRow (c := c1) (by first | exact blk_new _ _ | exact blk_drew (blk_new _ _) | exact blk_drewN (blk_new _ _) _ | exact blk_alloc (blk_new _ _) _) HC1.out (Kd.C_below HR1.out (by repeat (first | exact Below.refl _ _ | (with_reducible first | apply below_alloc | apply pw_below_drewN | apply below_drew1))))); rintro e w6 ⟨rfl, ⟨nd2, rfl⟩⟩))
    go_ret
    exact ⟨rfl, (by repeat (first | exact Below.refl _ _ | (with_reducible first | apply below_alloc | apply pw_below_drewN | apply below_drew1)))⟩

end Go.Proofs.Ytcdlhjfiboomkaa.Z

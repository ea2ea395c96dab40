-- Written by this session's wip/mp/mp.py out of the translation. Lean checks it.
import Derived.Test.YtgmdicckecjncaaZ0
import Derived.Test.YtgmdicckecjncaaZ2
import Derived.Test.YtgmdicckecjncaaZIdxRow
import Derived.Test.YtgmdicckecjncaaPAllIn
namespace Go.Proofs.Ytgmdicckecjncaa.Z
open Go.RowKit Go.Proofs.YtgmdicckecjncaaW.PrintWords Go.Proofs.YtgmdicckecjncaaW.PrintLast Go.Proofs.YtgmdicckecjncaaW.PrintMore
attribute [local go_sem] max2_int min2_int max_two min_two max_three min_three max_four min_four   -- for this text's walks alone
set_option linter.unusedVariables false
set_option linter.unusedSimpArgs false

-- GIVEN
-- FUNCTION loop.example/g00958/impl.isBits rounds
-- EXTRA loop.example/g00958/impl.isBits$1
-- EXTRA loop.example/g00958/impl.IsMatrix
-- IMPORT Derived.Test.YtgmdicckecjncaaZIdxRow
-- IMPORT Derived.Test.YtgmdicckecjncaaPAllIn
/-! ### impl_isBits: function 104 -/
def notBits (l : List Int) : Bool := !(l.all fun n => decide (0 ≤ n ∧ n ≤ 1))
def impl_isBits.f (k : Nat) (l0 : List (List Int)) (a1 : Int) : Option (Bool) := (impl_IsMatrix.f k l0 a1).bind fun b => some (b && !(l0.any notBits))
theorem impl_isBits.mono : ∀ a0 a1 k, LeO (impl_isBits.f k a0 a1) (impl_isBits.f (k + 1) a0 a1) := fun a0 a1 k => LeO.bind (impl_IsMatrix.mono a0 a1 k) (fun _ => LeO.refl _)

theorem impl_isBits.one (x : List Int) (hx : x.length ≤ 9223372036854775807) : ∃ k, impl_isBits_1.f k x = some (notBits x) := by
  refine Ev.rounds ?_
  unfold impl_isBits_1.f
  exact Ev.bind (Pure.impl_allIn x 0 1 hx) (Ev.now _)

theorem impl_isBits.pred (xs : List (List Int)) (w : World) : PredRow #[] 137 notBits xs w := fun x W A c _ _ hl hr => by
  obtain ⟨k, hk⟩ := impl_isBits.one x hr.2.1
  refine (impl_isBits_1.calls k A c x (notBits x) W hr hl hk).mono ?_
  rintro e w' ⟨rfl, hd⟩
  exact ⟨rfl, hd.below⟩

theorem impl_isBits.calls (k : Nat) (A0 : Option Addr) (c0 : Nat) (l0 : List (List Int)) (a1 : Int) (r : Bool) (w : World) (hr0 : Kd.C (Kd.slice 3 (Kd.int .i64)) w A0 l0.length l0) (hc0 : l0.length ≤ c0) (h : impl_isBits.f k l0 a1 = some r) :
    Calls Try.prog 104 #[.slice A0 l0.length c0, .int .i64 a1] w fun e w' => e = .returned (.bool r) ∧ Below w.heap.size w w' := by
  obtain ⟨b, hb, hr⟩ := Option.bind_eq_some_iff.1 h
  obtain rfl := Option.some.inj hr
  have eg : ∀ args w, (callFunc 137 args).run Try.prog w = .ok (.enter 137 args) w := enters_of Try.func137 (by kernel_rfl) rfl
  have hM := impl_IsMatrix.calls k A0 c0 l0 a1 b w hr0 hc0 hb
  cases b
  · rw [Bool.false_and]
    clear hr0 h hb hr
    go_enter Try.func104, Try.ntmps104
    go_wp2_with (go_at_call 48; refine hM.mono ?_; rintro e w' ⟨rfl, ⟨nd, rfl⟩⟩)
    go_ret
    exact ⟨rfl, by apply pw_below_drewN; exact Below.refl _ _⟩
  · rw [Bool.true_and]
    have hI := fun nd => conRow A0 c0 l0 (w.drewN nd) (Kd.C_drewN hr0 nd) notBits 137 #[] eg (impl_isBits.pred l0 (w.drewN nd))
    generalize l0.any notBits = r at hI ⊢
    clear hr0 h hb hr
    go_enter Try.func104, Try.ntmps104
    go_wp2_with (first | (go_at_call 48; refine hM.mono ?_; rintro e w' ⟨rfl, ⟨nd, rfl⟩⟩) | (go_at_call 96; refine (hI _).mono ?_; rintro e w' ⟨rfl, hb'⟩))
    go_ret
    exact ⟨rfl, below_then (by apply pw_below_drewN; exact Below.refl _ _) (by simp) hb'⟩

end Go.Proofs.Ytgmdicckecjncaa.Z

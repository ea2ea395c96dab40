-- Written by this session's wip/mp/mp.py out of the translation. Lean checks it.
import Derived.Test.YtabjcjieniokaaaZ0
import Derived.Test.YtabjcjieniokaaaZIdxInt
namespace Go.Proofs.Ytabjcjieniokaaa.Z
open Go.RowKit Go.Proofs.YtabjcjieniokaaaW.PrintWords Go.Proofs.YtabjcjieniokaaaW.PrintLast Go.Proofs.YtabjcjieniokaaaW.PrintMore
attribute [local go_sem] max2_int min2_int max_two min_two max_three min_three max_four min_four   -- for this text's walks alone
set_option linter.unusedVariables false
set_option linter.unusedSimpArgs false

-- GIVEN
-- FUNCTION loop.example/g00958/impl.lead
-- ALONE
-- IMPORT Derived.Test.YtabjcjieniokaaaZIdxInt
/-! ### impl_lead: function 93 -/
def notZero (n : Int) : Bool := !decide (n = 0)
def impl_lead.f (l0 : List Int) : Option Int := some (firstAt notZero l0)

set_option maxHeartbeats 1000000 in
theorem impl_lead.pred (xs : List Int) (w : World) : PredInt #[] 112 notZero xs w := fun x W _ _ => by
  unfold notZero
  show Calls Try.prog 112 #[.int .i64 x] W fun e W' => e = .returned (.bool (!decide (x = 0))) ∧ Below W.heap.size W W'
  by_cases h : x = 0
  · subst h
    go_enter Try.func112, Try.ntmps112
    go_wp2
    go_ret
    exact ⟨rfl, Below.refl _ _⟩
  · have h1 : decide (x = 0) = false := decide_eq_false h
    have h2 : (x == 0) = false := beq_false_of_ne h
    have h3 : (x != 0) = true := by simpa using h
    rw [h1]
    go_enter Try.func112, Try.ntmps112
    go_wp2
    go_ret
    exact ⟨rfl, Below.refl _ _⟩

set_option maxHeartbeats 1000000 in
theorem impl_lead.calls (A0 : Option Addr) (c0 : Nat) (l0 : List Int) (r : Int) (w : World) (hr0 : Kd.C (Kd.int .i64) w A0 l0.length l0) (hc0 : l0.length ≤ c0) (h : impl_lead.f l0 = some r) :
    Calls Try.prog 93 #[.slice A0 l0.length c0] w fun e w' => e = .returned (.int .i64 r) ∧ Below w.heap.size w w' := by
  obtain rfl := Option.some.inj h
  have eg : ∀ args w, (callFunc 112 args).run Try.prog w = .ok (.enter 112 args) w := enters_of Try.func112 (by kernel_rfl) rfl
  have hI := idxInt A0 c0 l0 w hr0 notZero 112 #[] eg (impl_lead.pred l0 w)
  have _ := hc0
  generalize firstAt notZero l0 = r at hI ⊢
  clear hr0 h hc0
  go_enter Try.func93, Try.ntmps93
  go_wp2_with (go_at_call 111; refine hI.mono ?_; rintro e w' ⟨rfl, hb'⟩)
  go_ret
  exact ⟨rfl, hb'⟩

end Go.Proofs.Ytabjcjieniokaaa.Z

-- Written by this session's wip/mp/mp.py out of the translation. Lean checks it.
import Derived.Test.YtgmdicckecjncaaZ0
import Derived.Test.YtgmdicckecjncaaZ2
import Derived.Test.YtgmdicckecjncaaZIdxInterval
namespace Go.Proofs.Ytgmdicckecjncaa.Z
open Go.RowKit Go.Proofs.YtgmdicckecjncaaW.PrintWords Go.Proofs.YtgmdicckecjncaaW.PrintLast Go.Proofs.YtgmdicckecjncaaW.PrintMore
attribute [local go_sem] max2_int min2_int max_two min_two max_three min_three max_four min_four   -- for this text's walks alone
set_option linter.unusedVariables false
set_option linter.unusedSimpArgs false

-- GIVEN
-- FUNCTION loop.example/g00958/impl.goodIntervals
-- EXTRA loop.example/g00958/impl.goodIntervals$1
-- IMPORT Derived.Test.YtgmdicckecjncaaZIdxInterval
/-! ### impl_goodIntervals: function 58 -/
def isBadI (x : S60) : Bool := !(decide (-100000 ≤ x.f0 ∧ x.f0 ≤ x.f1 ∧ x.f1 ≤ 100000) && decide (0 ≤ x.f0))
def impl_goodIntervals.f (l0 : List S60) : Option (Bool) := some (!(l0.any isBadI))

theorem impl_goodIntervals.one (x : S60) : impl_goodIntervals_1.f x.f0 x.f1 = some (isBadI x) := by
  unfold impl_goodIntervals_1.f impl_IsInterval.f isBadI
  by_cases h1 : x.f0 ≤ x.f1 <;> by_cases h2 : -100000 ≤ x.f0 <;> by_cases h3 : x.f1 ≤ 100000 <;> by_cases h4 : 0 ≤ x.f0 <;> by_cases h5 : x.f0 < 0 <;> first | omega | simp [h1, h2, h3, h4, h5]

theorem impl_goodIntervals.pred (xs : List S60) (w : World) : PredInterval #[] 106 isBadI xs w := fun x W _ _ =>
  impl_goodIntervals_1.calls x.f0 x.f1 (isBadI x) W (impl_goodIntervals.one x)

theorem impl_goodIntervals.calls (A0 : Option Addr) (c0 : Nat) (l0 : List S60) (r : Bool) (w : World) (hr0 : Kd.C k60 w A0 l0.length l0) (hc0 : l0.length ≤ c0) (h : impl_goodIntervals.f l0 = some r) :
    Calls Try.prog 58 #[.slice A0 l0.length c0] w fun e w' => e = .returned (.bool r) ∧ Below w.heap.size w w' := by
  obtain rfl := Option.some.inj h
  have eg : ∀ args w, (callFunc 106 args).run Try.prog w = .ok (.enter 106 args) w := enters_of Try.func106 (by kernel_rfl) rfl
  have hI := conInterval A0 c0 l0 w hr0 isBadI 106 #[] eg (impl_goodIntervals.pred l0 w)
  generalize l0.any isBadI = r at hI ⊢
  clear hr0 h
  go_enter Try.func58, Try.ntmps58
  go_wp2_with (go_at_call 105; refine hI.mono ?_; rintro e w' ⟨rfl, hb'⟩)
  go_ret
  exact ⟨rfl, hb'⟩

end Go.Proofs.Ytgmdicckecjncaa.Z

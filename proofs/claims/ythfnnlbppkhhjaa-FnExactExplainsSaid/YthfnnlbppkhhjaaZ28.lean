-- Written by this session's wip/mp/mp.py out of the translation. Lean checks it.
import Derived.Test.YthfnnlbppkhhjaaZ0
import Derived.Test.YthfnnlbppkhhjaaZ2
import Derived.Test.YthfnnlbppkhhjaaZIdxInt
namespace Go.Proofs.Ythfnnlbppkhhjaa.Z
open Go.RowKit Go.Proofs.YthfnnlbppkhhjaaW.PrintWords Go.Proofs.YthfnnlbppkhhjaaW.PrintLast Go.Proofs.YthfnnlbppkhhjaaW.PrintMore
attribute [local go_sem] max2_int min2_int max_two min_two max_three min_three max_four min_four   -- for this text's walks alone
set_option linter.unusedVariables false
set_option linter.unusedSimpArgs false

-- GIVEN
-- FUNCTION loop.example/g00958/impl.FailsWith
-- EXTRA loop.example/g00958/impl.at
-- IMPORT Derived.Test.YthfnnlbppkhhjaaZIdxInt
/-! ### impl_FailsWith: function 72 -/
def isHit (l : List Int) (k : Int) : Bool := if 0 ≤ k ∧ k < (l.length : Int) then rd l k == 1 else false
def impl_FailsWith.f (l0 : List Int) (l1 : List Int) : Option (Bool) := some (l1.any (isHit l0))

set_option maxRecDepth 100000 in
set_option maxHeartbeats 1000000 in
theorem impl_FailsWith.pred (A : Option Addr) (c : Nat) (l : List Int) (b1 : Nat) (xs : List Int) (w : World) (h1 : b1 < w.heap.size) (c1 : w.cell? ⟨b1, 0, none⟩ = some (.slice A l.length c)) (hr : Kd.C (Kd.int .i64) w A l.length l) :
    PredInt #[.pointer (some ⟨b1, 0, none⟩)] 88 (isHit l) xs w := fun x W _ hb => by
  have e1 : W.cell? ⟨b1, 0, none⟩ = some (.slice A l.length c) := (hb.cell (p := ⟨b1, 0, none⟩) h1).trans c1
  have HR := Aside0.mk (Kd.C_below hr hb)
  have hlen : l.length ≤ 9223372036854775807 := hr.2.1
  clear c1 hb h1 hr
  show Calls Try.prog 88 #[.int .i64 x, .pointer (some ⟨b1, 0, none⟩)] W _
  by_cases hx : 0 ≤ x ∧ x < (l.length : Int)
  · have hv : isHit l x = (rd l x == 1) := by unfold isHit; rw [if_pos hx]
    have hat : impl_at.f x (l.length : Int) = some true := by unfold impl_at.f; rw [if_pos hx.1]; simp [hx.2]
    obtain ⟨ad, rfl, e2⟩ := at_int HR.out x hx.1 hx.2
    rw [hv]
    clear hv HR
    obtain ⟨h0, hlt⟩ := hx
    generalize rd l x = y at e2 ⊢
    go_enter Try.func88, Try.ntmps88
    go_wp2_with (go_at_call 63; refine (impl_at.calls x (l.length : Int) true _ hat).mono ?_; rintro e w' ⟨rfl, ⟨nd, rfl⟩⟩)
    go_ret
    exact ⟨rfl, by apply pw_below_drewN; exact Below.refl _ _⟩
  · have hv : isHit l x = false := by unfold isHit; rw [if_neg hx]
    have hat : impl_at.f x (l.length : Int) = some false := by
      unfold impl_at.f
      by_cases h0 : x ≥ 0
      · rw [if_pos h0]; simp; omega
      · rw [if_neg h0]
    rw [hv]
    clear hv HR hx
    go_enter Try.func88, Try.ntmps88
    go_wp2_with (go_at_call 63; refine (impl_at.calls x (l.length : Int) false _ hat).mono ?_; rintro e w' ⟨rfl, ⟨nd, rfl⟩⟩)
    go_ret
    exact ⟨rfl, by apply pw_below_drewN; exact Below.refl _ _⟩

theorem impl_FailsWith.calls (A0 : Option Addr) (c0 : Nat) (l0 : List Int) (A1 : Option Addr) (c1 : Nat) (l1 : List Int) (r : Bool) (w : World) (hr0 : Kd.C (Kd.int .i64) w A0 l0.length l0) (hc0 : l0.length ≤ c0) (hr1 : Kd.C (Kd.int .i64) w A1 l1.length l1) (hc1 : l1.length ≤ c1) (h : impl_FailsWith.f l0 l1 = some r) :
    Calls Try.prog 72 #[.slice A0 l0.length c0, .slice A1 l1.length c1] w fun e w' => e = .returned (.bool r) ∧ Below w.heap.size w w' := by
  obtain rfl := Option.some.inj h
  have eg : ∀ args w, (callFunc 88 args).run Try.prog w = .ok (.enter 88 args) w := enters_of Try.func88 (by kernel_rfl) rfl
  have hI := conInt A1 c1 l1 (w.alloc (Obj.cells #[Value.slice A0 l0.length c0] 61)) (Kd.C_alloc hr1 _) (isHit l0) 88 #[.pointer (some ⟨w.heap.size, 0, none⟩)] eg
    (impl_FailsWith.pred A0 c0 l0 w.heap.size l1 (w.alloc (Obj.cells #[Value.slice A0 l0.length c0] 61)) (by simp) (by go_simp) (Kd.C_alloc hr0 _))
  generalize l1.any (isHit l0) = r at hI ⊢
  clear hr0 hr1 h
  go_enter Try.func72, Try.ntmps72
  go_wp2_with (go_at_call 87; refine hI.mono ?_; rintro e w' ⟨rfl, hb'⟩)
  go_ret
  exact ⟨rfl, ((Below.refl _ w).alloc (Nat.le_refl _) _).trans (hb'.mono (by simp))⟩

end Go.Proofs.Ythfnnlbppkhhjaa.Z

-- Written by this session's wip/mp/mp.py out of the translation. Lean checks it.
import Derived.Test.YtlplegdcpgbbbaaZ0
import Derived.Test.YtlplegdcpgbbbaaZIdxProbe
namespace Go.Proofs.Ytlplegdcpgbbbaa.Z
open Go.RowKit Go.Proofs.YtlplegdcpgbbbaaW.PrintWords Go.Proofs.YtlplegdcpgbbbaaW.PrintLast Go.Proofs.YtlplegdcpgbbbaaW.PrintMore
attribute [local go_sem] max2_int min2_int max_two min_two max_three min_three max_four min_four   -- for this text's walks alone
set_option linter.unusedVariables false
set_option linter.unusedSimpArgs false

-- GIVEN
-- FUNCTION loop.example/g00958/impl.AloneOn
-- IMPORT Derived.Test.YtlplegdcpgbbbaaZIdxProbe
/-! ### impl_AloneOn: function 62 -/
def isAlone (n : Int) (p : S38) : Bool := p.f2.length == 1 && rd p.f2 0 == n
def impl_AloneOn.f (l0 : List (S38)) (a1 : Int) : Option (Int) := some (firstAt (isAlone a1) l0)

set_option maxRecDepth 100000 in
set_option maxHeartbeats 1000000 in
theorem impl_AloneOn.pred (a : Int) (b1 : Nat) (xs : List S38) (w : World) (h1 : b1 < w.heap.size) (c1 : w.cell? ⟨b1, 0, none⟩ = some (.int .i64 a)) :
    PredProbe #[.pointer (some ⟨b1, 0, none⟩)] 102 (isAlone a) xs w := fun x W A c _ hb hl hr => by
  have hu := Try.underlying38
  have e1 : W.cell? ⟨b1, 0, none⟩ = some (.int .i64 a) := (hb.cell (p := ⟨b1, 0, none⟩) h1).trans c1
  have g1 : b1 < W.heap.size := Nat.lt_of_lt_of_le h1 hb.size
  have n1 : b1 ≠ W.heap.size := by omega
  clear c1 hb h1
  unfold isAlone
  show Calls Try.prog 102 #[.agg #[.int .i64 x.f0, .int .i64 x.f1, .slice A x.f2.length c], .pointer (some ⟨b1, 0, none⟩)] W _
  by_cases hq1 : x.f2.length = 1
  · have hq1' : (((x.f2.length : Nat) : Int) == 1) = true := by rw [beq_iff_eq]; omega
    have hq0 : (x.f2.length == 1) = true := by rw [beq_iff_eq]; exact hq1
    obtain ⟨ad, rfl, e3⟩ := at_int hr 0 (by omega) (by omega)
    rw [hq0, Bool.true_and]
    rw [hq1] at hl hr ⊢
    have hq2 : (((1 : Nat) : Int) == 1) = true := rfl
    clear hr hq1 hq1' hq0
    generalize rd x.f2 0 = y at e3 ⊢
    have e4 : W.cell? ad = some (.int .i64 y) := by simpa [Addr.add] using e3
    have e5 := Lib.cell?_alloc_some (Obj.cells #[Value.int IntKind.i64 x.f0, Value.int IntKind.i64 x.f1, Value.slice (some ad) 1 c] 38) e4
    clear e3 e4
    go_enter Try.func102, Try.ntmps102
    go_wp2
    go_quiet (fail)
    go_wp2
    go_ret
    exact ⟨rfl, by apply pw_below_drewN; exact (Below.refl _ _).alloc (Nat.le_refl _) _⟩
  · have hq1' : (((x.f2.length : Nat) : Int) == 1) = false := by rw [beq_eq_false_iff_ne]; omega
    have hq0 : (x.f2.length == 1) = false := by rw [beq_eq_false_iff_ne]; exact hq1
    rw [hq0, Bool.false_and]
    clear hq1 hq0 hr
    go_enter Try.func102, Try.ntmps102
    go_wp2
    go_quiet (fail)
    go_wp2
    go_ret
    exact ⟨rfl, by apply pw_below_drewN; exact (Below.refl _ _).alloc (Nat.le_refl _) _⟩

theorem impl_AloneOn.calls (A0 : Option Addr) (c0 : Nat) (l0 : List (S38)) (a1 : Int) (r : Int) (w : World) (hr0 : Kd.C k38 w A0 l0.length l0) (hc0 : l0.length ≤ c0) (h : impl_AloneOn.f l0 a1 = some r) :
    Calls Try.prog 62 #[.slice A0 l0.length c0, .int .i64 a1] w fun e w' => e = .returned (.int .i64 r) ∧ Below w.heap.size w w' := by
  obtain rfl := Option.some.inj h
  have eg : ∀ args w, (callFunc 102 args).run Try.prog w = .ok (.enter 102 args) w := enters_of Try.func102 (by kernel_rfl) rfl
  have hI := idxProbe A0 c0 l0 (w.alloc (Obj.cells #[Value.int IntKind.i64 a1] 3)) (Kd.C_alloc hr0 _) (isAlone a1) 102 #[.pointer (some ⟨w.heap.size, 0, none⟩)] eg
    (impl_AloneOn.pred a1 w.heap.size l0 (w.alloc (Obj.cells #[Value.int IntKind.i64 a1] 3)) (by simp) (by go_simp))
  generalize firstAt (isAlone a1) l0 = r at hI ⊢
  clear hr0 h
  go_enter Try.func62, Try.ntmps62
  go_wp2_with (go_at_call 101; refine hI.mono ?_; rintro e w' ⟨rfl, hb'⟩)
  go_ret
  exact ⟨rfl, ((Below.refl _ w).alloc (Nat.le_refl _) _).trans (hb'.mono (by simp))⟩

end Go.Proofs.Ytlplegdcpgbbbaa.Z

-- Written by this session's wip/mp/mp.py out of the translation. Lean checks it.
import Derived.Test.YtgghhcifkgdpeaaZ0
import Derived.Test.YtgghhcifkgdpeaaZ1
import Derived.Test.YtgghhcifkgdpeaaZIdxLink
namespace Go.Proofs.Ytgghhcifkgdpeaa.Z
open Go.RowKit Go.Proofs.YtgghhcifkgdpeaaW.PrintWords Go.Proofs.YtgghhcifkgdpeaaW.PrintLast Go.Proofs.YtgghhcifkgdpeaaW.PrintMore
attribute [local go_sem] max2_int min2_int max_two min_two max_three min_three max_four min_four   -- for this text's walks alone
set_option linter.unusedVariables false
set_option linter.unusedSimpArgs false

attribute [local go_sem high] eqA63
-- GIVEN
-- FUNCTION loop.example/g00958/impl.LinkOf
-- IMPORT Derived.Test.YtgghhcifkgdpeaaZIdxLink
-- EQT 63
/-! ### impl_LinkOf: function 38 -/
def isLink (a b : Int) (k : S63) : Bool := (k.f0 == a && k.f1 == b) || (k.f0 == b && k.f1 == a)
def impl_LinkOf.f (a0_0 : Int) (l0_1 : List (S63)) (a1 : Int) (a2 : Int) : Option (Int) := some (firstAt (isLink a1 a2) l0_1)

set_option maxRecDepth 100000 in
set_option maxHeartbeats 1000000 in
theorem impl_LinkOf.pred (a b : Int) (b1 b2 : Nat) (xs : List S63) (w : World) (h1 : b1 < w.heap.size) (h2 : b2 < w.heap.size) (c1 : w.cell? ⟨b1, 0, none⟩ = some (.int .i64 a)) (c2 : w.cell? ⟨b2, 0, none⟩ = some (.int .i64 b)) :
    PredLink #[.pointer (some ⟨b1, 0, none⟩), .pointer (some ⟨b2, 0, none⟩)] 82 (isLink a b) xs w := fun x W _ hb => by
  have hu := Try.underlying63
  have e1 : W.cell? ⟨b1, 0, none⟩ = some (.int .i64 a) := (hb.cell (p := ⟨b1, 0, none⟩) h1).trans c1
  have e2 : W.cell? ⟨b2, 0, none⟩ = some (.int .i64 b) := (hb.cell (p := ⟨b2, 0, none⟩) h2).trans c2
  have g1 : b1 < W.heap.size := Nat.lt_of_lt_of_le h1 hb.size
  have g2 : b2 < W.heap.size := Nat.lt_of_lt_of_le h2 hb.size
  have n1 : b1 ≠ W.heap.size := by omega
  have n2 : b2 ≠ W.heap.size := by omega
  clear c1 c2 hb h1 h2
  unfold isLink
  show Calls Try.prog 82 #[.agg #[.int .i64 x.f0, .int .i64 x.f1], .pointer (some ⟨b1, 0, none⟩), .pointer (some ⟨b2, 0, none⟩)] W _
  go_enter Try.func82, Try.ntmps82
  cases hq1 : (x.f0 == a && x.f1 == b)
  · cases hq2 : (x.f0 == b && x.f1 == a) <;> (go_wp2; go_ret; exact ⟨rfl, (Below.refl _ _).alloc (Nat.le_refl _) _⟩)
  · go_wp2
    go_ret
    exact ⟨rfl, (Below.refl _ _).alloc (Nat.le_refl _) _⟩

theorem impl_LinkOf.calls (a0_0 : Int) (A0_1 : Option Addr) (c0_1 : Nat) (l0_1 : List (S63)) (a1 : Int) (a2 : Int) (r : Int) (w : World) (hr0_1 : Kd.C k63 w A0_1 l0_1.length l0_1) (hc0_1 : l0_1.length ≤ c0_1) (h : impl_LinkOf.f a0_0 l0_1 a1 a2 = some r) :
    Calls Try.prog 38 #[.agg #[.int .i64 a0_0, .slice A0_1 l0_1.length c0_1], .int .i64 a1, .int .i64 a2] w fun e w' => e = .returned (.int .i64 r) ∧ Below w.heap.size w w' := by
  obtain rfl := Option.some.inj h
  have eg : ∀ args w, (callFunc 82 args).run Try.prog w = .ok (.enter 82 args) w := enters_of Try.func82 (by kernel_rfl) rfl
  have hI := idxLink A0_1 c0_1 l0_1 (((w.alloc (Obj.cells #[Value.int IntKind.i64 a0_0, Value.slice A0_1 l0_1.length c0_1] 54)).alloc (Obj.cells #[Value.int IntKind.i64 a1] 3)).alloc (Obj.cells #[Value.int IntKind.i64 a2] 3))
    (Kd.C_alloc (Kd.C_alloc (Kd.C_alloc hr0_1 _) _) _) (isLink a1 a2) 82 #[.pointer (some ⟨w.heap.size + 1, 0, none⟩), .pointer (some ⟨w.heap.size + 1 + 1, 0, none⟩)] eg
    (impl_LinkOf.pred a1 a2 (w.heap.size + 1) (w.heap.size + 1 + 1) l0_1 (((w.alloc (Obj.cells #[Value.int IntKind.i64 a0_0, Value.slice A0_1 l0_1.length c0_1] 54)).alloc (Obj.cells #[Value.int IntKind.i64 a1] 3)).alloc (Obj.cells #[Value.int IntKind.i64 a2] 3)) (by simp) (by simp) (by go_simp) (by go_simp))
  generalize firstAt (isLink a1 a2) l0_1 = r at hI ⊢
  clear hr0_1 h
  go_enter Try.func38, Try.ntmps38
  go_wp2_with (go_at_call 81; refine hI.mono ?_; rintro e w' ⟨rfl, hb'⟩)
  go_ret
  exact ⟨rfl, ((((Below.refl _ w).alloc (Nat.le_refl _) _).alloc (by simp) _).alloc (by simp; omega) _).trans (hb'.mono (by simp; omega))⟩

end Go.Proofs.Ytgghhcifkgdpeaa.Z

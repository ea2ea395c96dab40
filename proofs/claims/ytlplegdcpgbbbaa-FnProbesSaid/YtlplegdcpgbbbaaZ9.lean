-- Written by this session's wip/mp/mp.py out of the translation. Lean checks it.
import Derived.Test.YtlplegdcpgbbbaaZ0
import Derived.Test.YtlplegdcpgbbbaaZ2
import Derived.Test.YtlplegdcpgbbbaaZ4
import Derived.Test.YtlplegdcpgbbbaaZIdxProbe
namespace Go.Proofs.Ytlplegdcpgbbbaa.Z
open Go.RowKit Go.Proofs.YtlplegdcpgbbbaaW.PrintWords Go.Proofs.YtlplegdcpgbbbaaW.PrintLast Go.Proofs.YtlplegdcpgbbbaaW.PrintMore
attribute [local go_sem] max2_int min2_int max_two min_two max_three min_three max_four min_four   -- for this text's walks alone
set_option linter.unusedVariables false
set_option linter.unusedSimpArgs false

-- GIVEN
-- FUNCTION loop.example/g00958/impl.AreProbes rounds
-- EXTRA loop.example/g00958/impl.IsPath
-- EXTRA loop.example/g00958/impl.IsNet
-- IMPORT Derived.Test.YtlplegdcpgbbbaaZIdxProbe
/-! ### impl_AreProbes: function 59 -/
def badProbe (k : Nat) (n : Int) (l : List S93) (p : S38) : Option Bool := if p.f2.length = 0 then some true else (impl_IsPath.f k n l p.f2 p.f0 p.f1).bind fun b => some (!b)
def impl_AreProbes.f (k : Nat) (a0_0 : Int) (l0_1 : List (S93)) (l1 : List (S38)) : Option (Bool) := (impl_IsNet.f k a0_0 l0_1).bind fun b => if b = true then (if (l1.length : Int) ≤ 12 then (anyO (badProbe k a0_0 l0_1) l1).bind fun q => some (!q) else some false) else some false

theorem badProbe.mono (n : Int) (l : List S93) (p : S38) (k : Nat) : LeO (badProbe k n l p) (badProbe (k + 1) n l p) := LeO.ite (LeO.refl _) (LeO.bind (impl_IsPath.mono _ _ _ _ _ k) (fun _ => LeO.refl _))
theorem impl_AreProbes.mono : ∀ a0 a1 a2 k, LeO (impl_AreProbes.f k a0 a1 a2) (impl_AreProbes.f (k + 1) a0 a1 a2) := fun a0 a1 a2 k => LeO.bind (impl_IsNet.mono a0 a1 k) (fun _ => LeO.ite (LeO.ite (LeO.bind (anyO_mono (fun x => badProbe.mono a0 a1 x k) a2) (fun _ => LeO.refl _)) (LeO.refl _)) (LeO.refl _))

set_option maxRecDepth 100000 in
set_option maxHeartbeats 1000000 in
theorem impl_AreProbes.pred (k : Nat) (n : Int) (A : Option Addr) (c : Nat) (l : List S93) (b1 : Nat) (xs : List S38) (w : World) (h1 : b1 < w.heap.size) (c1 : w.cell? ⟨b1, 0, none⟩ = some (.int .i64 n)) (c2 : w.cell? ⟨b1, 1, none⟩ = some (.slice A l.length c))
    (hr : Kd.C k93 w A l.length l) (hc : l.length ≤ c) (hx : ∀ x ∈ xs, badProbe k n l x = some ((badProbe k n l x).getD false)) :
    PredProbe #[.pointer (some ⟨b1, 0, none⟩)] 99 (fun x => (badProbe k n l x).getD false) xs w := fun x W A2 cc hxm hb hl2 hr2 => by
  have hu := Try.underlying38
  have hu2 := Try.underlying30
  have e1 : W.cell? ⟨b1, 0, none⟩ = some (.int .i64 n) := (hb.cell (p := ⟨b1, 0, none⟩) h1).trans c1
  have e2 : W.cell? ⟨b1, 1, none⟩ = some (.slice A l.length c) := (hb.cell (p := ⟨b1, 1, none⟩) h1).trans c2
  have g1 : b1 < W.heap.size := Nat.lt_of_lt_of_le h1 hb.size
  have n1 : b1 ≠ W.heap.size := by omega
  have HR := Aside0.mk (Kd.C_below hr hb)
  have hv := hx x hxm
  clear c1 c2 hb h1 hr hx hxm
  show Calls Try.prog 99 #[.agg #[.int .i64 x.f0, .int .i64 x.f1, .slice A2 x.f2.length cc], .pointer (some ⟨b1, 0, none⟩)] W fun e W' => e = .returned (.bool ((badProbe k n l x).getD false)) ∧ Below W.heap.size W W'
  generalize (badProbe k n l x).getD false = r at hv ⊢
  unfold badProbe at hv
  by_cases h0 : x.f2.length = 0
  · rw [if_pos h0] at hv
    obtain rfl := Option.some.inj hv
    have hq : (((x.f2.length : Nat) : Int) == 0) = true := by rw [beq_iff_eq]; omega
    clear hv hr2 HR h0
    go_enter Try.func99, Try.ntmps99
    go_wp2
    go_ret
    exact ⟨rfl, (Below.refl _ _).alloc (Nat.le_refl _) _⟩
  · rw [if_neg h0] at hv
    obtain ⟨b, hb, hv⟩ := Option.bind_eq_some_iff.1 hv
    obtain rfl := Option.some.inj hv
    have hq : (((x.f2.length : Nat) : Int) == 0) = false := by rw [beq_eq_false_iff_ne]; omega
    have hP := impl_IsPath.calls k n A c l A2 cc x.f2 x.f0 x.f1 b (W.alloc (Obj.cells #[Value.int IntKind.i64 x.f0, Value.int IntKind.i64 x.f1, Value.slice A2 x.f2.length cc] 38)) (Kd.C_alloc HR.out _) hc (Kd.C_alloc hr2 _) hl2 hb
    clear hv hr2 HR h0 hb
    go_enter Try.func99, Try.ntmps99
    go_wp2_with (go_at_call 31; refine hP.mono ?_; rintro e w' ⟨rfl, hb'⟩)
    go_ret
    exact ⟨rfl, ((Below.refl _ W).alloc (Nat.le_refl _) _).trans (hb'.mono (by simp))⟩

set_option maxRecDepth 100000 in
set_option maxHeartbeats 1000000 in
theorem impl_AreProbes.calls (k : Nat) (a0_0 : Int) (A0_1 : Option Addr) (c0_1 : Nat) (l0_1 : List (S93)) (A1 : Option Addr) (c1 : Nat) (l1 : List (S38)) (r : Bool) (w : World) (hr0_1 : Kd.C k93 w A0_1 l0_1.length l0_1) (hc0_1 : l0_1.length ≤ c0_1) (hr1 : Kd.C k38 w A1 l1.length l1) (hc1 : l1.length ≤ c1) (h : impl_AreProbes.f k a0_0 l0_1 l1 = some r) :
    Calls Try.prog 59 #[.agg #[.int .i64 a0_0, .slice A0_1 l0_1.length c0_1], .slice A1 l1.length c1] w fun e w' => e = .returned (.bool r) ∧ Below w.heap.size w w' := by
  have hu2 := Try.underlying30
  obtain ⟨b, hN, h⟩ := Option.bind_eq_some_iff.1 h
  have eg : ∀ args w, (callFunc 99 args).run Try.prog w = .ok (.enter 99 args) w := enters_of Try.func99 (by kernel_rfl) rfl
  have hM := impl_IsNet.calls k a0_0 A0_1 c0_1 l0_1 b (w.alloc (Obj.cells #[Value.int IntKind.i64 a0_0, Value.slice A0_1 l0_1.length c0_1] 30)) (Kd.C_alloc hr0_1 _) hc0_1 hN
  cases b
  · rw [if_neg (by decide)] at h
    obtain rfl := Option.some.inj h
    clear hr0_1 hr1 hN h
    go_enter Try.func59, Try.ntmps59
    go_wp2_with (go_at_call 29; refine hM.mono ?_; rintro e w' ⟨rfl, hb'⟩)
    go_ret
    exact ⟨rfl, ((Below.refl _ w).alloc (Nat.le_refl _) _).trans (hb'.mono (by simp))⟩
  · rw [if_pos rfl] at h
    by_cases h12 : (l1.length : Int) ≤ 12
    · rw [if_pos h12] at h
      obtain ⟨q, hq, h⟩ := Option.bind_eq_some_iff.1 h
      obtain rfl := Option.some.inj h
      obtain ⟨hx, rfl⟩ := anyO_some _ _ _ hq
      have hd : decide ((l1.length : Nat) ≤ 12) = true := decide_eq_true (by omega)
      have hI := fun (W : World) (hb : Below w.heap.size w W) (hlt : w.heap.size < W.heap.size) (k1 : W.cell? ⟨w.heap.size, 0, none⟩ = some (.int .i64 a0_0)) (k2 : W.cell? ⟨w.heap.size, 1, none⟩ = some (.slice A0_1 l0_1.length c0_1)) =>
        conProbe A1 c1 l1 W (Kd.C_below hr1 hb) (fun x => (badProbe k a0_0 l0_1 x).getD false) 99 #[.pointer (some ⟨w.heap.size, 0, none⟩)] eg
          (impl_AreProbes.pred k a0_0 A0_1 c0_1 l0_1 w.heap.size l1 W hlt k1 k2 (Kd.C_below hr0_1 hb) hc0_1 hx)
      generalize l1.any (fun x => (badProbe k a0_0 l0_1 x).getD false) = q at hI ⊢
      clear hr0_1 hr1 hN h hx hq
      have HI := Aside0.mk hI
      clear hI
      go_enter Try.func59, Try.ntmps59
      go_wp2_with (first | (go_at_call 29; refine hM.mono ?_; rintro e w' ⟨rfl, hb'⟩) | (go_at_call 98; refine (HI.out _ (((Below.refl _ w).alloc (Nat.le_refl _) _).trans (hb'.mono (by simp))) (Nat.lt_of_lt_of_le (by simp) hb'.size) ((hb'.cell (p := ⟨w.heap.size, 0, none⟩) (by simp)).trans (by go_simp)) ((hb'.cell (p := ⟨w.heap.size, 1, none⟩) (by simp)).trans (by go_simp))).mono ?_; rintro e w2 ⟨rfl, hb2⟩))
      go_ret
      have hbb : Below w.heap.size w w' := ((Below.refl _ w).alloc (Nat.le_refl _) _).trans (hb'.mono (by simp))
      exact ⟨rfl, hbb.trans (hb2.mono hbb.size)⟩
    · rw [if_neg h12] at h
      obtain rfl := Option.some.inj h
      have hd : decide ((l1.length : Nat) ≤ 12) = false := decide_eq_false (by omega)
      clear hr0_1 hr1 hN h
      go_enter Try.func59, Try.ntmps59
      go_wp2_with (go_at_call 29; refine hM.mono ?_; rintro e w' ⟨rfl, hb'⟩)
      go_ret
      exact ⟨rfl, ((Below.refl _ w).alloc (Nat.le_refl _) _).trans (hb'.mono (by simp))⟩

end Go.Proofs.Ytlplegdcpgbbbaa.Z

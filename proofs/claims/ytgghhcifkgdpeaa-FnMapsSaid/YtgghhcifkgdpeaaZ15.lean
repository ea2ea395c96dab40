-- Written by this session's wip/mp/mp.py out of the translation. Lean checks it.
import Derived.Test.YtgghhcifkgdpeaaZ0
import Derived.Test.YtgghhcifkgdpeaaZ3
import Derived.Test.YtgghhcifkgdpeaaZ4
import Derived.Test.YtgghhcifkgdpeaaZ5
import Derived.Test.YtgghhcifkgdpeaaZIdxLink
import Derived.Test.YtgghhcifkgdpeaaZFirst
namespace Go.Proofs.Ytgghhcifkgdpeaa.Z
open Go.RowKit Go.Proofs.YtgghhcifkgdpeaaW.PrintWords Go.Proofs.YtgghhcifkgdpeaaW.PrintLast Go.Proofs.YtgghhcifkgdpeaaW.PrintMore
attribute [local go_sem] max2_int min2_int max_two min_two max_three min_three max_four min_four   -- for this text's walks alone
set_option linter.unusedVariables false
set_option linter.unusedSimpArgs false

-- GIVEN
-- FUNCTION loop.example/g00958/impl.FitsMap rounds
-- EXTRA loop.example/g00958/impl.IsNet
-- EXTRA loop.example/g00958/impl.AreTraces
-- EXTRA loop.example/g00958/impl.steps
-- EXTRA loop.example/g00958/impl.LinkOf
-- IMPORT Derived.Test.YtgghhcifkgdpeaaZIdxLink
-- IMPORT Derived.Test.YtgghhcifkgdpeaaZFirst
/-! ### impl_FitsMap: function 36 -/
def badStep (l : List S63) (x : S63) : Bool := decide (firstAt (isLink x.f0 x.f1) l < 0)
def impl_FitsMap.f (k : Nat) (a0_0 : Int) (l0_1 : List (S63)) (l1 : List (S61)) : Option (Bool) := (impl_IsNet.f k a0_0 l0_1).bind fun b => if b = true then ((impl_AreTraces.f k l1).bind fun c => if c = true then ((impl_steps.f k l1).bind fun s => some (!(s.any (badStep l0_1)))) else some false) else some false

theorem impl_FitsMap.mono : ∀ a0 a1 a2 k, LeO (impl_FitsMap.f k a0 a1 a2) (impl_FitsMap.f (k + 1) a0 a1 a2) := fun a0 a1 a2 k => LeO.bind (impl_IsNet.mono a0 a1 k) (fun _ => LeO.ite (LeO.bind (impl_AreTraces.mono a2 k) (fun _ => LeO.ite (LeO.bind (impl_steps.mono a2 k) (fun _ => LeO.refl _)) (LeO.refl _))) (LeO.refl _))

set_option maxRecDepth 100000 in
set_option maxHeartbeats 1000000 in
theorem impl_FitsMap.pred (n : Int) (A : Option Addr) (c : Nat) (l : List S63) (b1 : Nat) (xs : List S63) (w : World) (h1 : b1 < w.heap.size) (c1 : w.cell? ⟨b1, 0, none⟩ = some (.int .i64 n)) (c2 : w.cell? ⟨b1, 1, none⟩ = some (.slice A l.length c))
    (hr : Kd.C k63 w A l.length l) (hc : l.length ≤ c) :
    PredLink #[.pointer (some ⟨b1, 0, none⟩)] 79 (badStep l) xs w := fun x W hxm hb => by
  have hu := Try.underlying63
  have hu2 := Try.underlying54
  have e1 : W.cell? ⟨b1, 0, none⟩ = some (.int .i64 n) := (hb.cell (p := ⟨b1, 0, none⟩) h1).trans c1
  have e2 : W.cell? ⟨b1, 1, none⟩ = some (.slice A l.length c) := (hb.cell (p := ⟨b1, 1, none⟩) h1).trans c2
  have g1 : b1 < W.heap.size := Nat.lt_of_lt_of_le h1 hb.size
  have n1 : b1 ≠ W.heap.size := by omega
  have hP := impl_LinkOf.calls n A c l x.f0 x.f1 _ (W.alloc (Obj.cells #[Value.int IntKind.i64 x.f0, Value.int IntKind.i64 x.f1] 63)) (Kd.C_alloc (Kd.C_below hr hb) _) hc rfl
  clear c1 c2 hb h1 hr hxm
  show Calls Try.prog 79 #[.agg #[.int .i64 x.f0, .int .i64 x.f1], .pointer (some ⟨b1, 0, none⟩)] W fun e W' => e = .returned (.bool (badStep l x)) ∧ Below W.heap.size W W'
  unfold badStep
  generalize firstAt (isLink x.f0 x.f1) l = q at hP ⊢
  go_enter Try.func79, Try.ntmps79
  go_wp2_with (go_at_call 38; refine hP.mono ?_; rintro e w' ⟨rfl, hb'⟩)
  go_ret
  exact ⟨rfl, ((Below.refl _ W).alloc (Nat.le_refl _) _).trans (hb'.mono (by simp))⟩

set_option maxRecDepth 100000 in
set_option maxHeartbeats 1000000 in
theorem impl_FitsMap.calls (k : Nat) (a0_0 : Int) (A0_1 : Option Addr) (c0_1 : Nat) (l0_1 : List (S63)) (A1 : Option Addr) (c1 : Nat) (l1 : List (S61)) (r : Bool) (w : World) (hr0_1 : Kd.C k63 w A0_1 l0_1.length l0_1) (hc0_1 : l0_1.length ≤ c0_1) (hr1 : Kd.C k61 w A1 l1.length l1) (hc1 : l1.length ≤ c1) (h : impl_FitsMap.f k a0_0 l0_1 l1 = some r) :
    Calls Try.prog 36 #[.agg #[.int .i64 a0_0, .slice A0_1 l0_1.length c0_1], .slice A1 l1.length c1] w fun e w' => e = .returned (.bool r) ∧ Below w.heap.size w w' := by
  have hu2 := Try.underlying54
  obtain ⟨b, hN, h⟩ := Option.bind_eq_some_iff.1 h
  have eg : ∀ args w, (callFunc 79 args).run Try.prog w = .ok (.enter 79 args) w := enters_of Try.func79 (by kernel_rfl) rfl
  have hM := impl_IsNet.calls k a0_0 A0_1 c0_1 l0_1 b (w.alloc (Obj.cells #[Value.int IntKind.i64 a0_0, Value.slice A0_1 l0_1.length c0_1] 54)) (Kd.C_alloc hr0_1 _) hc0_1 hN
  have HL := Aside0.mk (Below.alloc (Below.refl w.heap.size w) (Nat.le_refl _) (Obj.cells #[Value.int IntKind.i64 a0_0, Value.slice A0_1 l0_1.length c0_1] 54))
  cases b
  · rw [if_neg (by decide)] at h
    obtain rfl := Option.some.inj h
    clear hr0_1 hr1 hN h
    go_enter Try.func36, Try.ntmps36
    go_wp2_with (go_at_call 37; refine hM.mono ?_; rintro e w' ⟨rfl, hb'⟩)
    go_ret
    exact ⟨rfl, HL.out.trans (hb'.mono (by simp))⟩
  · rw [if_pos rfl] at h
    obtain ⟨c, hT, h⟩ := Option.bind_eq_some_iff.1 h
    have hTC := fun (W : World) (hb : Below w.heap.size w W) => impl_AreTraces.calls k A1 c1 l1 c W (Kd.C_below hr1 hb) hc1 hT
    cases c
    · rw [if_neg (by decide)] at h
      obtain rfl := Option.some.inj h
      clear hr0_1 hr1 hN h hT
      have HT := Aside0.mk hTC
      clear hTC
      go_enter Try.func36, Try.ntmps36
      go_wp2_with (first | (go_at_call 37; refine hM.mono ?_; rintro e w' ⟨rfl, hb'⟩) | (go_at_call 34; refine (HT.out _ (HL.out.trans (hb'.mono (by simp)))).mono ?_; rintro e w2 ⟨rfl, hb2⟩))
      go_ret
      have hbb : Below w.heap.size w w' := HL.out.trans (hb'.mono (by simp))
      exact ⟨rfl, hbb.trans (hb2.mono hbb.size)⟩
    · rw [if_pos rfl] at h
      obtain ⟨s, hS, h⟩ := Option.bind_eq_some_iff.1 h
      obtain rfl := Option.some.inj h
      have hSC := fun (W : World) (hb : Below w.heap.size w W) => impl_steps.calls k A1 c1 l1 s W (Kd.C_below hr1 hb) hc1 hS
      have hI := fun (W0 W : World) (v : Value) (hb0 : Below w.heap.size w W0) (hb : Below W0.heap.size W0 W) (ho : Kd.R k63 63 W W0.heap.size (fun _ => True) v s) (hlt : w.heap.size < W0.heap.size) (k1 : W0.cell? ⟨w.heap.size, 0, none⟩ = some (.int .i64 a0_0)) (k2 : W0.cell? ⟨w.heap.size, 1, none⟩ = some (.slice A0_1 l0_1.length c0_1)) =>
        (show Calls Try.prog 78 #[v, .func (.func 79) #[] #[.pointer (some ⟨w.heap.size, 0, none⟩)]] W fun e w' => e = .returned (.bool (s.any (badStep l0_1))) ∧ Below W.heap.size W w' from by
          obtain ⟨A, cc, rfl⟩ := Kd.R_slice ho
          exact conLink A cc s W (Kd.R_reads' ho).2.2 (badStep l0_1) 79 #[.pointer (some ⟨w.heap.size, 0, none⟩)] eg
            (impl_FitsMap.pred a0_0 A0_1 c0_1 l0_1 w.heap.size s W (Nat.lt_of_lt_of_le hlt hb.size) ((hb.cell (p := ⟨w.heap.size, 0, none⟩) hlt).trans k1) ((hb.cell (p := ⟨w.heap.size, 1, none⟩) hlt).trans k2) (Kd.C_below hr0_1 (hb0.trans (hb.mono hb0.size))) hc0_1))
      generalize s.any (badStep l0_1) = q at hI ⊢
      clear hr0_1 hr1 hN h hT hS
      have HT := Aside0.mk hTC
      have HS := Aside0.mk hSC
      have HI := Aside0.mk hI
      clear hTC hSC hI
      go_enter Try.func36, Try.ntmps36
      go_wp2_with (first | (go_at_call 37; refine hM.mono ?_; rintro e w' ⟨rfl, hb'⟩; have HB1 := Aside0.mk (HL.out.trans (hb'.mono (by simp))); have K1 := Aside0.mk ((hb'.cell (p := ⟨w.heap.size, 0, none⟩) (by simp)).trans (by go_simp) : w'.cell? ⟨w.heap.size, 0, none⟩ = some (.int .i64 a0_0)); have K2 := Aside0.mk ((hb'.cell (p := ⟨w.heap.size, 1, none⟩) (by simp)).trans (by go_simp) : w'.cell? ⟨w.heap.size, 1, none⟩ = some (.slice A0_1 l0_1.length c0_1)); have S1 := Aside0.mk (Nat.lt_of_lt_of_le (by simp) hb'.size : w.heap.size < w'.heap.size)) | (go_at_call 34; refine (HT.out _ HB1.out).mono ?_; rintro e w2 ⟨rfl, hb2⟩; have HB2 := Aside0.mk (HB1.out.trans (hb2.mono HB1.out.size)); have S2 := Aside0.mk (Nat.lt_of_lt_of_le S1.out hb2.size)) | (go_at_call 67; refine (HS.out _ HB2.out).mono ?_; rintro e w3 ⟨v0, rfl, ho3, hb3⟩; have HO3 := Aside0.mk ho3; have HB3 := Aside0.mk (HB2.out.trans (hb3.mono HB2.out.size)); clear ho3) | (go_at_call 78; refine (HI.out _ _ _ HB2.out hb3 HO3.out S2.out ((hb2.cell (p := ⟨w.heap.size, 0, none⟩) S1.out).trans K1.out) ((hb2.cell (p := ⟨w.heap.size, 1, none⟩) S1.out).trans K2.out)).mono ?_; rintro e w4 ⟨rfl, hb4⟩))
      go_ret
      exact ⟨rfl, HB3.out.trans (hb4.mono HB3.out.size)⟩

end Go.Proofs.Ytgghhcifkgdpeaa.Z

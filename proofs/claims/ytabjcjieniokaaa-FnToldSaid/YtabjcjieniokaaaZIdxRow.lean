/- slices.IndexFunc and slices.ContainsFunc over lists of Row: the first place at which the predicate holds, or whether there is one, for whatever predicate a closure computes. Condition: the closure's own contract. -/
import Derived.Test.YtabjcjieniokaaaZFirst
import Derived.Test.YtabjcjieniokaaaZ0
namespace Go.Proofs.Ytabjcjieniokaaa.Z
open Go.RowKit Go.Proofs.YtabjcjieniokaaaW.PrintWords Go.Proofs.YtabjcjieniokaaaW.PrintLast Go.Proofs.YtabjcjieniokaaaW.PrintMore
set_option linter.unusedVariables false
set_option linter.unusedSimpArgs false
def PredRow (lb : Array Value) (g : Nat) (p : (List Int) → Bool) (xs : List (List Int)) (w : World) : Prop :=
  ∀ (x : (List Int)) (W : World) (A0_ : Option Addr) (c0_ : Nat), x ∈ xs → Below w.heap.size w W → x.length ≤ c0_ → Kd.C (Kd.int .i64) W A0_ x.length x → Calls Try.prog g (#[.slice A0_ x.length c0_] ++ lb) W fun e W' => e = .returned (.bool (p x)) ∧ Below W.heap.size W W'
set_option maxHeartbeats 2000000 in
set_option maxRecDepth 100000 in
theorem idxRow (A : Option Addr) (c : Nat) (xs : List (List Int)) (w : World) (hr : Kd.C (Kd.slice 3 (Kd.int .i64)) w A xs.length xs) (p : (List Int) → Bool) (g : Nat) (lb : Array Value) (eg : ∀ args w, (callFunc g args).run Try.prog w = .ok (.enter g args) w) (hp : PredRow lb g p xs w) :
    Calls Try.prog 98 #[.slice A xs.length c, .func (.func g) #[] lb] w fun e w' => e = .returned (.int .i64 (firstAt p xs)) ∧ Below w.heap.size w w' := by
  have hn : xs.length ≤ 9223372036854775807 := hr.2.1
  have HR := Aside0.mk hr
  have HP := Aside0.mk hp
  clear hr hp
  obtain ⟨n, hxn⟩ : ∃ n, xs.length = n := ⟨_, rfl⟩
  rw [hxn] at HR hn ⊢
  have HN := Aside0.mk hxn
  clear hxn
  go_enter Try.func98, Try.ntmps98
  go_wp2
  go_loopg [5, 8] n (fun gg _ s8 wr => ∃ kk : Nat, kk ≤ n ∧ n - kk ≤ gg ∧ s8 = .int .i64 kk ∧ Aside0 (Below w.heap.size w wr) ∧ Aside0 (∀ j (hj : j < xs.length), j < kk → p xs[j] = false))
  case atStart => exact ⟨0, Nat.zero_le _, by omega, rfl, ⟨Below.refl _ w⟩, ⟨fun j _ hj => absurd hj (Nat.not_lt_zero _)⟩⟩
  case round =>
    obtain ⟨kk, hkk, hg, rfl, BW, AF⟩ := hrel
    by_cases hlt : kk < n
    · have hltz : (kk : Int) < (n : Int) := by omega
      have hl : kk < xs.length := by rw [HN.out]; exact hlt
      obtain ⟨ad, A0_, c0_, rfl, q0, l0_, g0_⟩ := at_L1 (Kd.C_below HR.out BW.out) (kk : Int) (by omega) hltz
      have hx : rd_L1 xs (kk : Int) = xs[kk] := getD_at xs kk _ hl
      simp only [Int.toNat_natCast] at q0
      rw [hx] at q0 l0_ g0_
      have hcall := HP.out xs[kk] wr A0_ c0_ (List.getElem_mem hl) BW.out l0_ g0_
      clear hx l0_ g0_
      generalize hy : xs[kk] = y at hcall q0
      have B := Aside0.mk hy
      clear hy
      cases hq : p y with
      | true =>
        rw [hq] at hcall
        go_wp2_with (go_at_fn g; refine hcall.mono ?_; rintro e w' ⟨rfl, hb'⟩)
        go_ret
        refine ⟨?_, BW.out.trans (hb'.mono BW.out.size)⟩
        rw [firstAt_hit p xs kk hl (by rw [B.out]; exact hq) AF.out]
        rfl
      | false =>
        rw [hq] at hcall
        go_wp2_with (go_at_fn g; refine hcall.mono ?_; rintro e w' ⟨rfl, hb'⟩)
        go_roundg (n - (kk + 1))
        case measure => omega
        case rel =>
          refine ⟨kk + 1, by omega, by omega, by go_num, ⟨BW.out.trans (hb'.mono BW.out.size)⟩, ⟨fun j hj hlt2 => ?_⟩⟩
          by_cases e : j = kk
          · subst e
            rw [B.out]; exact hq
          · exact AF.out j hj (by omega)
    · have hltz : ¬ (kk : Int) < (n : Int) := by omega
      have : kk = n := by omega
      subst this
      go_wp2
      go_ret
      refine ⟨?_, BW.out⟩
      rw [firstAt_miss p xs (fun j hj => AF.out j hj (by rw [HN.out] at hj; exact hj))]
      rfl
set_option maxHeartbeats 2000000 in
set_option maxRecDepth 100000 in
theorem conRow (A : Option Addr) (c : Nat) (xs : List (List Int)) (w : World) (hr : Kd.C (Kd.slice 3 (Kd.int .i64)) w A xs.length xs) (p : (List Int) → Bool) (g : Nat) (lb : Array Value) (eg : ∀ args w, (callFunc g args).run Try.prog w = .ok (.enter g args) w) (hp : PredRow lb g p xs w) :
    Calls Try.prog 66 #[.slice A xs.length c, .func (.func g) #[] lb] w fun e w' => e = .returned (.bool (xs.any p)) ∧ Below w.heap.size w w' := by
  have hI := idxRow A c xs w hr p g lb eg hp
  have hP := firstAt_any p xs
  generalize firstAt p xs = r at hI hP
  rw [← hP]
  clear hP hp hr
  go_enter Try.func66, Try.ntmps66
  go_wp2_with (go_at_call 98; refine hI.mono ?_; rintro e w' ⟨rfl, hb'⟩)
  go_ret
  exact ⟨rfl, hb'⟩
end Go.Proofs.Ytabjcjieniokaaa.Z

/- slices.IndexFunc and slices.ContainsFunc over lists of Link: the first place at which the predicate holds, or whether there is one, for whatever predicate a closure computes. Condition: the closure's own contract. -/
import Derived.Test.YtgghhcifkgdpeaaZFirst
import Derived.Test.YtgghhcifkgdpeaaZ0
namespace Go.Proofs.Ytgghhcifkgdpeaa.Z
open Go.RowKit Go.Proofs.YtgghhcifkgdpeaaW.PrintWords Go.Proofs.YtgghhcifkgdpeaaW.PrintLast Go.Proofs.YtgghhcifkgdpeaaW.PrintMore
set_option linter.unusedVariables false
set_option linter.unusedSimpArgs false
def PredLink (lb : Array Value) (g : Nat) (p : S63 → Bool) (xs : List S63) (w : World) : Prop :=
  ∀ (x : S63) (W : World) , x ∈ xs → Below w.heap.size w W → Calls Try.prog g (#[.agg #[.int .i64 x.f0, .int .i64 x.f1]] ++ lb) W fun e W' => e = .returned (.bool (p x)) ∧ Below W.heap.size W W'
set_option maxHeartbeats 2000000 in
set_option maxRecDepth 100000 in
theorem idxLink (A : Option Addr) (c : Nat) (xs : List S63) (w : World) (hr : Kd.C k63 w A xs.length xs) (p : S63 → Bool) (g : Nat) (lb : Array Value) (eg : ∀ args w, (callFunc g args).run Try.prog w = .ok (.enter g args) w) (hp : PredLink lb g p xs w) :
    Calls Try.prog 81 #[.slice A xs.length c, .func (.func g) #[] lb] w fun e w' => e = .returned (.int .i64 (firstAt p xs)) ∧ Below w.heap.size w w' := by
  have hu := Try.underlying63
  have hn : xs.length ≤ 9223372036854775807 := hr.2.1
  have HR := Aside0.mk hr
  have HP := Aside0.mk hp
  clear hr hp
  obtain ⟨n, hxn⟩ : ∃ n, xs.length = n := ⟨_, rfl⟩
  rw [hxn] at HR hn ⊢
  have HN := Aside0.mk hxn
  clear hxn
  go_enter Try.func81, Try.ntmps81
  go_wp2
  go_loopg [5, 8] n (fun gg _ s8 wr => ∃ kk : Nat, kk ≤ n ∧ n - kk ≤ gg ∧ s8 = .int .i64 kk ∧ Aside0 (Below w.heap.size w wr) ∧ Aside0 (∀ j (hj : j < xs.length), j < kk → p xs[j] = false))
  case atStart => exact ⟨0, Nat.zero_le _, by omega, rfl, ⟨Below.refl _ w⟩, ⟨fun j _ hj => absurd hj (Nat.not_lt_zero _)⟩⟩
  case round =>
    obtain ⟨kk, hkk, hg, rfl, BW, AF⟩ := hrel
    by_cases hlt : kk < n
    · have hltz : (kk : Int) < (n : Int) := by omega
      have hl : kk < xs.length := by rw [HN.out]; exact hlt
      obtain ⟨ad, rfl, q0, q1⟩ := at_T63 (Kd.C_below HR.out BW.out) (kk : Int) (by omega) hltz
      have hx : rd_T63 xs (kk : Int) = xs[kk] := getD_at xs kk _ hl
      simp only [Int.toNat_natCast] at q0 q1
      rw [hx] at q0 q1
      have hcall := HP.out xs[kk] wr  (List.getElem_mem hl) BW.out 
      clear hx 
      generalize hy : xs[kk] = y at hcall q0 q1
      have B := Aside0.mk hy
      clear hy
      cases hq : p y with
      | true =>
        rw [hq] at hcall
        go_wp2_with (go_at_fn g; refine hcall.mono ?_; rintro e w' ⟨rfl, hb'⟩)
        go_ret
        refine ⟨?_, BW.out.trans (hb'.mono BW.out.size)⟩
        rw [firstAt_hit p xs kk hl (by rw [B.out]; exact hq) AF.out]
        rfl
      | false =>
        rw [hq] at hcall
        go_wp2_with (go_at_fn g; refine hcall.mono ?_; rintro e w' ⟨rfl, hb'⟩)
        go_roundg (n - (kk + 1))
        case measure => omega
        case rel =>
          refine ⟨kk + 1, by omega, by omega, by go_num, ⟨BW.out.trans (hb'.mono BW.out.size)⟩, ⟨fun j hj hlt2 => ?_⟩⟩
          by_cases e : j = kk
          · subst e
            rw [B.out]; exact hq
          · exact AF.out j hj (by omega)
    · have hltz : ¬ (kk : Int) < (n : Int) := by omega
      have : kk = n := by omega
      subst this
      go_wp2
      go_ret
      refine ⟨?_, BW.out⟩
      rw [firstAt_miss p xs (fun j hj => AF.out j hj (by rw [HN.out] at hj; exact hj))]
      rfl
set_option maxHeartbeats 2000000 in
set_option maxRecDepth 100000 in
theorem conLink (A : Option Addr) (c : Nat) (xs : List S63) (w : World) (hr : Kd.C k63 w A xs.length xs) (p : S63 → Bool) (g : Nat) (lb : Array Value) (eg : ∀ args w, (callFunc g args).run Try.prog w = .ok (.enter g args) w) (hp : PredLink lb g p xs w) :
    Calls Try.prog 78 #[.slice A xs.length c, .func (.func g) #[] lb] w fun e w' => e = .returned (.bool (xs.any p)) ∧ Below w.heap.size w w' := by
  have hI := idxLink A c xs w hr p g lb eg hp
  have hP := firstAt_any p xs
  generalize firstAt p xs = r at hI hP
  rw [← hP]
  clear hP hp hr
  go_enter Try.func78, Try.ntmps78
  go_wp2_with (go_at_call 81; refine hI.mono ?_; rintro e w' ⟨rfl, hb'⟩)
  go_ret
  exact ⟨rfl, hb'⟩
end Go.Proofs.Ytgghhcifkgdpeaa.Z

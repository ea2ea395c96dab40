-- Written by this session's wip/mp/mp.py out of the translation. Lean checks it.
import Derived.Test.YtgghhcifkgdpeaaZ0
import Derived.Test.YtgghhcifkgdpeaaZ1
import Derived.Test.YtgghhcifkgdpeaaZIdxReply
namespace Go.Proofs.Ytgghhcifkgdpeaa.Z
open Go.RowKit Go.Proofs.YtgghhcifkgdpeaaW.PrintWords Go.Proofs.YtgghhcifkgdpeaaW.PrintLast Go.Proofs.YtgghhcifkgdpeaaW.PrintMore
attribute [local go_sem] max2_int min2_int max_two min_two max_three min_three max_four min_four   -- for this text's walks alone
set_option linter.unusedVariables false
set_option linter.unusedSimpArgs false

-- GIVEN
-- FUNCTION loop.example/g00958/impl.AreReplies
-- EXTRA loop.example/g00958/impl.InRange
-- IMPORT Derived.Test.YtgghhcifkgdpeaaZIdxReply
/-! ### impl_AreReplies: function 18 -/
def okReply (x : S68) : Bool := decide (0 ≤ x.f0 ∧ x.f0 ≤ 20) && (decide (0 ≤ x.f1 ∧ x.f1 ≤ 100000) && decide (0 ≤ x.f2 ∧ x.f2 ≤ 100000))
def sameTime (t : Int) (y : S68) : Bool := y.f1 == t
def replyOk (l : List S68) (i : Nat) : Bool := okReply (rd_T68 l (i : Int)) && !((l.take i).any (sameTime (rd_T68 l (i : Int)).f1))
def areReplies (l : List S68) : Bool := if l.length > 12 then false else (List.range l.length).all (replyOk l)
def impl_AreReplies.f (l0 : List (S68)) : Option (Bool) := some (areReplies l0)

theorem areReplies_no (l : List S68) (kk : Nat) (h : kk < l.length) (hb : replyOk l kk = false) : areReplies l = false := by
  unfold areReplies
  split
  · rfl
  · rw [List.all_eq_false]
    exact ⟨kk, List.mem_range.2 h, by rw [hb]; decide⟩

theorem areReplies_yes (l : List S68) (h : ¬ l.length > 12) (hb : ∀ j, j < l.length → replyOk l j = true) : areReplies l = true := by
  unfold areReplies
  rw [if_neg h, List.all_eq_true]
  exact fun j hj => hb j (List.mem_range.1 hj)

theorem inRange_eq (n a b : Int) : impl_InRange.f n a b = some (decide (a ≤ n ∧ n ≤ b)) := by
  unfold impl_InRange.f
  by_cases h : a ≤ n <;> simp [h]

set_option maxRecDepth 100000 in
set_option maxHeartbeats 1000000 in
theorem impl_AreReplies.pred (x : S68) (b1 : Nat) (xs : List S68) (w : World) (h1 : b1 < w.heap.size) (c1 : w.cell? ⟨b1, 1, none⟩ = some (.int .i64 x.f1)) :
    PredReply #[.pointer (some ⟨b1, 0, none⟩)] 54 (sameTime x.f1) xs w := fun y W _ hb => by
  have hu := Try.underlying68
  have e1 : W.cell? ⟨b1, 1, none⟩ = some (.int .i64 x.f1) := (hb.cell (p := ⟨b1, 1, none⟩) h1).trans c1
  have g1 : b1 < W.heap.size := Nat.lt_of_lt_of_le h1 hb.size
  have n1 : b1 ≠ W.heap.size := by omega
  clear c1 hb h1
  show Calls Try.prog 54 #[.agg #[.int .i64 y.f0, .int .i64 y.f1, .int .i64 y.f2], .pointer (some ⟨b1, 0, none⟩)] W fun e W' => e = .returned (.bool (y.f1 == x.f1)) ∧ Below W.heap.size W W'
  go_enter Try.func54, Try.ntmps54
  go_wp2
  go_ret
  exact ⟨rfl, (Below.refl _ _).alloc (Nat.le_refl _) _⟩

set_option maxRecDepth 100000 in
set_option maxHeartbeats 4000000 in
theorem impl_AreReplies.calls (A0 : Option Addr) (c0 : Nat) (l0 : List S68) (r : Bool) (w : World) (hr0 : Kd.C k68 w A0 l0.length l0) (hc0 : l0.length ≤ c0) (h : impl_AreReplies.f l0 = some r) :
    Calls Try.prog 18 #[.slice A0 l0.length c0] w fun e w' => e = .returned (.bool r) ∧ Below w.heap.size w w' := by
  have hu := Try.underlying68
  have eg : ∀ args w, (callFunc 54 args).run Try.prog w = .ok (.enter 54 args) w := enters_of Try.func54 (by kernel_rfl) rfl
  obtain rfl := Option.some.inj h
  by_cases h12 : l0.length > 12
  · have hd : decide ((12 : Nat) < l0.length) = true := decide_eq_true h12
    have hv : areReplies l0 = false := by unfold areReplies; rw [if_pos h12]
    rw [hv]
    clear h hr0 hv
    go_enter Try.func18, Try.ntmps18
    go_wp2
    go_ret
    exact ⟨rfl, Below.refl _ _⟩
  · have hd : decide ((12 : Nat) < l0.length) = false := decide_eq_false h12
    have HR := Aside0.mk hr0
    have H12 := Aside0.mk h12
    clear hr0 h h12
    obtain ⟨n, hxn⟩ : ∃ n, l0.length = n := ⟨_, rfl⟩
    have hn : n ≤ 12 := by have := H12.out; omega
    rw [hxn] at HR hc0 hd ⊢
    have HN := Aside0.mk hxn
    clear hxn
    go_enter Try.func18, Try.ntmps18
    go_wp2
    go_loopg [3, 4, 10] n (fun gg _ _ s10 wr => ∃ kk : Nat, kk ≤ n ∧ n - kk ≤ gg ∧ s10 = .int .i64 kk ∧ Aside0 (Below w.heap.size w wr) ∧ Aside0 (∀ j, j < kk → replyOk l0 j = true))
    case atStart => exact ⟨0, Nat.zero_le _, by omega, rfl, ⟨Below.refl _ w⟩, ⟨fun j hj => absurd hj (Nat.not_lt_zero _)⟩⟩
    case round =>
      obtain ⟨kk, hkk, hg, rfl, BW, AF⟩ := hrel
      by_cases hlt : kk < n
      · have hltz : (kk : Int) < (n : Int) := by omega
        have hl : kk < l0.length := by rw [HN.out]; exact hlt
        have hkc : kk ≤ c0 := by omega
        obtain ⟨ad, rfl, q0, q1, q2⟩ := at_T68 (Kd.C_below HR.out BW.out) (kk : Int) (by omega) hltz
        simp only [Int.toNat_natCast] at q0 q1 q2
        obtain ⟨v, hv⟩ : ∃ v, replyOk l0 kk = v := ⟨_, rfl⟩
        have hv2 := hv
        unfold replyOk okReply at hv2
        have hcon := fun (W : World) (hb : Below w.heap.size w W) (hlt : wr.heap.size < W.heap.size) (k1 : W.cell? ⟨wr.heap.size, 1, none⟩ = some (.int .i64 (rd_T68 l0 (kk : Int)).f1)) =>
          conReply (some ad) c0 (l0.take kk) W (Kd.C_take (Kd.C_below (by rw [HN.out]; exact HR.out) hb) (by omega)) (sameTime (rd_T68 l0 (kk : Int)).f1) 54 #[.pointer (some ⟨wr.heap.size, 0, none⟩)] eg
            (impl_AreReplies.pred _ wr.heap.size (l0.take kk) W hlt k1)
        have htl : (l0.take kk).length = kk := by rw [List.length_take]; omega
        rw [htl] at hcon
        have HC := Aside0.mk hcon
        clear hcon htl
        generalize rd_T68 l0 (kk : Int) = y at q0 q1 q2 hv2 HC
        generalize (l0.take kk).any (sameTime y.f1) = du at hv2 HC
        obtain ⟨b1, hb1⟩ : ∃ b, decide (0 ≤ y.f0 ∧ y.f0 ≤ 20) = b := ⟨_, rfl⟩
        obtain ⟨b2, hb2⟩ : ∃ b, decide (0 ≤ y.f1 ∧ y.f1 ≤ 100000) = b := ⟨_, rfl⟩
        obtain ⟨b3, hb3⟩ : ∃ b, decide (0 ≤ y.f2 ∧ y.f2 ≤ 100000) = b := ⟨_, rfl⟩
        rw [hb1, hb2, hb3] at hv2
        have f1 := (inRange_eq y.f0 0 20).trans (by rw [hb1])
        have f2 := (inRange_eq y.f1 0 100000).trans (by rw [hb2])
        have f3 := (inRange_eq y.f2 0 100000).trans (by rw [hb3])
        have F1 := Aside0.mk (fun W => impl_InRange.calls y.f0 0 20 b1 W f1)
        have F2 := Aside0.mk (fun W => impl_InRange.calls y.f1 0 100000 b2 W f2)
        have F3 := Aside0.mk (fun W => impl_InRange.calls y.f2 0 100000 b3 W f3)
        have HV := Aside0.mk hv
        have HV2 := Aside0.mk hv2
        clear f1 f2 f3 hb1 hb2 hb3 hv hv2
        cases b1
        · have E : Aside0 (replyOk l0 kk = false) := ⟨by rw [HV.out, ← HV2.out]; rfl⟩
          go_wp2_with (go_at_call 52; (with_reducible refine (F1.out _).mono ?_); rintro e w' ⟨rfl, ⟨nd, rfl⟩⟩)
          go_ret
          rw [areReplies_no l0 kk hl E.out]
          exact ⟨rfl, by repeat (first | exact BW.out.alloc BW.out.size _ | apply pw_below_drewN)⟩
        · cases b2
          · have E : Aside0 (replyOk l0 kk = false) := ⟨by rw [HV.out, ← HV2.out]; rfl⟩
            go_wp2_with (first | (go_at_call 52; (with_reducible refine (F1.out _).mono ?_); rintro e w' ⟨rfl, ⟨nd, rfl⟩⟩) | (go_at_call 52; (with_reducible refine (F2.out _).mono ?_); rintro e w' ⟨rfl, ⟨nd, rfl⟩⟩))
            go_ret
            rw [areReplies_no l0 kk hl E.out]
            exact ⟨rfl, by repeat (first | exact BW.out.alloc BW.out.size _ | apply pw_below_drewN)⟩
          · cases b3
            · have E : Aside0 (replyOk l0 kk = false) := ⟨by rw [HV.out, ← HV2.out]; rfl⟩
              go_wp2_with (first | (go_at_call 52; (with_reducible refine (F1.out _).mono ?_); rintro e w' ⟨rfl, ⟨nd, rfl⟩⟩) | (go_at_call 52; (with_reducible refine (F2.out _).mono ?_); rintro e w' ⟨rfl, ⟨nd, rfl⟩⟩) | (go_at_call 52; (with_reducible refine (F3.out _).mono ?_); rintro e w' ⟨rfl, ⟨nd, rfl⟩⟩))
              go_ret
              rw [areReplies_no l0 kk hl E.out]
              exact ⟨rfl, by repeat (first | exact BW.out.alloc BW.out.size _ | apply pw_below_drewN)⟩
            · have e : replyOk l0 kk = !du := by rw [HV.out, ← HV2.out]; rfl
              clear HV HV2
              cases du
              · have E := Aside0.mk e
                clear e
                go_wp2_with (first | (go_at_call 52; (with_reducible refine (F1.out _).mono ?_); rintro e w' ⟨rfl, ⟨nd, rfl⟩⟩) | (go_at_call 52; (with_reducible refine (F2.out _).mono ?_); rintro e w' ⟨rfl, ⟨nd, rfl⟩⟩) | (go_at_call 52; (with_reducible refine (F3.out _).mono ?_); rintro e w' ⟨rfl, ⟨nd, rfl⟩⟩) | (go_at_call 53; refine (HC.out _ (by repeat (first | exact BW.out.alloc BW.out.size _ | apply pw_below_drewN)) (by simp) (by go_simp)).mono ?_; rintro e w' ⟨rfl, hb'⟩))
                go_roundg (n - (kk + 1))
                case measure => omega
                case rel =>
                  refine ⟨kk + 1, by omega, by omega, by go_num, ⟨?_⟩, ⟨fun j hj => ?_⟩⟩
                  · refine below_then (B := w.heap.size) (by repeat (first | exact BW.out.alloc BW.out.size _ | apply pw_below_drewN)) ?_ hb'
                    have := BW.out.size
                    simp
                    omega
                  · by_cases hjk : j = kk
                    · subst hjk
                      exact E.out
                    · exact AF.out j (by omega)
              · have E := Aside0.mk e
                clear e
                go_wp2_with (first | (go_at_call 52; (with_reducible refine (F1.out _).mono ?_); rintro e w' ⟨rfl, ⟨nd, rfl⟩⟩) | (go_at_call 52; (with_reducible refine (F2.out _).mono ?_); rintro e w' ⟨rfl, ⟨nd, rfl⟩⟩) | (go_at_call 52; (with_reducible refine (F3.out _).mono ?_); rintro e w' ⟨rfl, ⟨nd, rfl⟩⟩) | (go_at_call 53; refine (HC.out _ (by repeat (first | exact BW.out.alloc BW.out.size _ | apply pw_below_drewN)) (by simp) (by go_simp)).mono ?_; rintro e w' ⟨rfl, hb'⟩))
                go_ret
                rw [areReplies_no l0 kk hl E.out]
                refine ⟨rfl, below_then (B := w.heap.size) (by repeat (first | exact BW.out.alloc BW.out.size _ | apply pw_below_drewN)) ?_ hb'⟩
                have := BW.out.size
                simp
                omega
      · have hltz : ¬ (kk : Int) < (n : Int) := by omega
        have : kk = n := by omega
        subst this
        go_wp2
        go_ret
        rw [areReplies_yes l0 H12.out (fun j hj => AF.out j (by rw [HN.out] at hj; exact hj))]
        exact ⟨rfl, BW.out⟩

end Go.Proofs.Ytgghhcifkgdpeaa.Z

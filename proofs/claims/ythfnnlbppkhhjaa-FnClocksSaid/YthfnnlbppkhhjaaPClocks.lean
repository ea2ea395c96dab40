/- Plain lemmas for the clocks: what the program's MeetAll answers, by members. Condition: the list is short. -/
import Derived.Test.YthfnnlbppkhhjaaPBase
import Derived.Test.YthfnnlbppkhhjaaZ1
namespace Go.Proofs.Ythfnnlbppkhhjaa.Pure
open Go.RowKit Go.Proofs.Ythfnnlbppkhhjaa.Z Go.Proofs.YthfnnlbppkhhjaaW.PrintWords

def isIv (a b : Int) : Bool := decide (-100000 ≤ a ∧ a ≤ b ∧ b ≤ 100000)
theorem clocks_isI (a b : Int) : impl_IsInterval.f a b = some (isIv a b) := by
  unfold impl_IsInterval.f isIv
  by_cases h1 : a ≤ b <;> by_cases h2 : -100000 ≤ a <;> by_cases h3 : b ≤ 100000 <;> first | omega | simp [h1, h2, h3]

/-- All that is left is met with a..b. -/
def meetG (a b : Int) : List S25 → Int × Int × Bool
  | [] => (a, b, true)
  | x :: l => if isIv a b = true ∧ isIv x.f0 x.f1 = true ∧ mx a x.f0 ≤ mn b x.f1 then meetG (mx a x.f0) (mn b x.f1) l else (0, 0, false)

theorem clocks_meet (a b c d : Int) : impl_MeetIntervals.f a b c d = some (if isIv a b = true ∧ isIv c d = true ∧ mx a c ≤ mn b d then (mx a c, mn b d, true) else (0, 0, false)) := by
  unfold impl_MeetIntervals.f
  rw [clocks_isI, Option.bind_some]
  by_cases h1 : isIv a b = true
  · rw [if_pos h1, clocks_isI, Option.bind_some]
    by_cases h2 : isIv c d = true
    · rw [if_pos h2]
      by_cases h3 : mx a c ≤ mn b d
      · rw [if_neg (by omega), if_pos ⟨h1, h2, h3⟩]
      · rw [if_pos (by omega), if_neg (fun h => h3 h.2.2)]
    · rw [if_neg h2, if_neg (fun h => h2 h.2.1)]
  · rw [if_neg h1, if_neg (fun h => h1 h.1)]

theorem clocks_meetAll (x : S25) (l : List S25) (hl : (x :: l).length ≤ 9223372036854775806) : Ev (fun k => impl_MeetAll.f k (x :: l)) (meetG x.f0 x.f1 (x :: l)) := by
  unfold impl_MeetAll.f
  generalize hq : x :: l = q at hl ⊢
  have hpos : 0 < q.length := by rw [← hq]; simp
  have e0 : rd_T25 q 0 = x := by rw [← hq]; rfl
  refine Ev.ifneg (by omega) (Ev.ifpos (by omega) ?_)
  rw [e0]
  refine Ev.up q.length (fun i (s : Int × Int) k => impl_MeetAll.l0 k q (q.length : Int) (i : Int) s.1 s.2) (fun i s => meetG s.1 s.2 (q.drop i)) (fun _ _ => True) ?_ ?_ 0 (x.f0, x.f1) (Nat.zero_le _) trivial
  · intro s _
    rw [List.drop_of_length_le (Nat.le_refl _)]
    refine Ev.step (fun k => by rw [impl_MeetAll.l0]) ?_
    exact Ev.ifneg (by omega) (Ev.now _)
  · intro i s hi _ ih
    rw [drop_get _ i hi, meetG]
    refine Ev.step (fun k => by rw [impl_MeetAll.l0]) ?_
    refine Ev.ifpos (by omega) (Ev.ifpos (by omega) (Ev.ifpos (by omega) ?_))
    rw [show rd_T25 q (i : Int) = q[i] from getD_get q i _ hi, wrap_succ (by omega)]
    refine Ev.bind0 (clocks_meet _ _ _ _) ?_
    by_cases h : isIv s.1 s.2 = true ∧ isIv q[i].f0 q[i].f1 = true ∧ mx s.1 q[i].f0 ≤ mn s.2 q[i].f1
    · rw [if_pos h, if_pos h]
      exact Ev.ifpos rfl (ih (mx s.1 q[i].f0, mn s.2 q[i].f1) trivial)
    · rw [if_neg h, if_neg h]
      exact Ev.ifneg (by decide) (Ev.now _)

/-- Does v lie in the interval, and is it one? -/
def inIv (v : Int) (x : S25) : Bool := isIv x.f0 x.f1 && decide (x.f0 ≤ v ∧ v ≤ x.f1)

theorem meetG_in (v : Int) : ∀ (l : List S25) (a b : Int), isIv a b = true → (((meetG a b l).2.2 = true ∧ (meetG a b l).1 ≤ v ∧ v ≤ (meetG a b l).2.1) ↔ ((a ≤ v ∧ v ≤ b) ∧ ∀ x ∈ l, inIv v x = true))
  | [], a, b, _ => by simp [meetG]
  | x :: l, a, b, h => by
    rw [meetG]
    by_cases hc : isIv a b = true ∧ isIv x.f0 x.f1 = true ∧ mx a x.f0 ≤ mn b x.f1
    · rw [if_pos hc]
      have h2 : isIv (mx a x.f0) (mn b x.f1) = true := by
        have h3 := hc.2.1
        have h4 := hc.2.2
        unfold isIv mx mn at *
        simp only [decide_eq_true_eq] at *
        split <;> split <;> omega
      rw [meetG_in v l _ _ h2]
      simp only [List.mem_cons, forall_eq_or_imp, inIv, hc.2.1, Bool.true_and, decide_eq_true_eq]
      unfold mx mn
      constructor
      · rintro ⟨h5, h6⟩
        split at h5 <;> split at h5 <;> exact ⟨by omega, by omega, h6⟩
      · rintro ⟨h5, h6, h7⟩
        refine ⟨?_, h7⟩
        split <;> split <;> omega
    · rw [if_neg hc]
      constructor
      · rintro ⟨h5, _⟩
        exact absurd h5 (by decide)
      · rintro ⟨h5, h6⟩
        have h7 := h6 x (List.mem_cons_self ..)
        unfold inIv at h7
        simp only [Bool.and_eq_true, decide_eq_true_eq] at h7
        refine absurd ⟨h, h7.1, ?_⟩ hc
        unfold mx mn
        split <;> split <;> omega

end Go.Proofs.Ythfnnlbppkhhjaa.Pure

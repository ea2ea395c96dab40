/- Plain lemmas: what the program's and the reference's MeetAll return. Condition: the list is not longer than a list can be. -/
import Derived.Test.YthfnnlbppkhhjaaPMeet
import Derived.Test.YthfnnlbppkhhjaaZ4
import Derived.Test.YthfnnlbppkhhjaaZ6
namespace Go.Proofs.Ythfnnlbppkhhjaa.Pure
open Go.RowKit Go.Proofs.Ythfnnlbppkhhjaa.Z Go.Proofs.YthfnnlbppkhhjaaW.PrintWords

abbrev Iv := S25

def meetF (a b : Int) : List Iv → Int × Int × Bool
  | [] => (a, b, true)
  | y :: t => if (meet a b y.f0 y.f1).2.2 = true then meetF (meet a b y.f0 y.f1).1 (meet a b y.f0 y.f1).2.1 t else (0, 0, false)

/-- The meet of all intervals, and whether there is one. -/
def meetAll (l : List Iv) : Int × Int × Bool := if l = [] then (0, 0, false) else meetF (-100000) 100000 l

theorem rdIv (xs : List Iv) (i : Nat) (h : i < xs.length) : rd_T25 xs (i : Int) = xs[i] := getD_get xs i _ h

theorem spec_meetAll (l : List Iv) (hl : l.length ≤ 9223372036854775806) : Ev (fun k => spec_MeetAll.f k l) (meetAll l) := by
  unfold spec_MeetAll.f
  have key := Ev.up l.length (fun i (s : Int × Int) k => spec_MeetAll.l0 k l (i : Int) s.1 s.2) (fun i s => if l = [] then (0, 0, false) else meetF s.1 s.2 (l.drop i)) (fun _ _ => True)
    (fun s _ => by
      refine Ev.step (fun k => by rw [spec_MeetAll.l0]) ?_
      refine Ev.ifneg (by omega) ?_
      rw [List.drop_of_length_le (Nat.le_refl _)]
      by_cases h : l = []
      · rw [if_pos h]
        exact Ev.ifpos (by rw [h]; rfl) (Ev.now _)
      · rw [if_neg h]
        have : l.length ≠ 0 := fun e => h (List.length_eq_zero_iff.1 e)
        exact Ev.ifneg (by omega) (Ev.now _))
    (fun i s hi _ ih => by
      have hne : l ≠ [] := fun e => by rw [e] at hi; simp at hi
      refine Ev.step (fun k => by rw [spec_MeetAll.l0]) ?_
      refine Ev.ifpos (by omega) (Ev.ifpos (by omega) ?_)
      rw [rdIv l i hi]
      refine Ev.bind0 (spec_meet _ _ _ _) ?_
      rw [if_neg hne, drop_get l i hi, meetF]
      by_cases hm : (meet s.1 s.2 l[i].f0 l[i].f1).2.2 = true
      · refine Ev.ifpos hm ?_
        rw [if_pos hm, wrap_succ (by omega)]
        have := ih ((meet s.1 s.2 l[i].f0 l[i].f1).1, (meet s.1 s.2 l[i].f0 l[i].f1).2.1) trivial
        rw [if_neg hne] at this
        exact this
      · rw [if_neg hm]
        exact Ev.ifneg hm (Ev.now _)) 0 (-100000, 100000) (Nat.zero_le _) trivial
  simpa [meetAll] using key

theorem meet_first (a b : Int) : meet (-100000) 100000 a b = meet a b a b := by
  unfold meet
  have h0 : isI (-100000) 100000 = true := by decide
  have h1 : mx a a = a := by unfold mx; split <;> omega
  have h2 : mn b b = b := by unfold mn; split <;> omega
  cases h : isI a b
  · simp
  · have h' := h
    simp only [isI, decide_eq_true_eq] at h'
    have h3 : mx (-100000) a = a := by unfold mx; split <;> omega
    have h4 : mn 100000 b = b := by unfold mn; split <;> omega
    rw [h0, h1, h2, h3, h4]
    try simp

theorem impl_meetAll (l : List Iv) (hl : l.length ≤ 9223372036854775806) : Ev (fun k => impl_MeetAll.f k l) (meetAll l) := by
  unfold impl_MeetAll.f meetAll
  by_cases h : l = []
  · rw [if_pos h]
    exact Ev.ifpos (by rw [h]; rfl) (Ev.now _)
  · rw [if_neg h]
    have hne : l.length ≠ 0 := fun e => h (List.length_eq_zero_iff.1 e)
    refine Ev.ifneg (by omega) (Ev.ifpos (by omega) ?_)
    have key := Ev.up l.length (fun i (s : Int × Int) k => impl_MeetAll.l0 k l (l.length : Int) (i : Int) s.1 s.2) (fun i s => meetF s.1 s.2 (l.drop i)) (fun _ _ => True)
      (fun s _ => by
        refine Ev.step (fun k => by rw [impl_MeetAll.l0]) ?_
        refine Ev.ifneg (by omega) ?_
        rw [List.drop_of_length_le (Nat.le_refl _)]
        exact Ev.now _)
      (fun i s hi _ ih => by
        refine Ev.step (fun k => by rw [impl_MeetAll.l0]) ?_
        refine Ev.ifpos (by omega) (Ev.ifpos (by omega) (Ev.ifpos (by omega) ?_))
        rw [rdIv l i hi]
        refine Ev.bind0 (impl_meet _ _ _ _) ?_
        rw [drop_get l i hi, meetF]
        by_cases hm : (meet s.1 s.2 l[i].f0 l[i].f1).2.2 = true
        · refine Ev.ifpos hm ?_
          rw [if_pos hm, wrap_succ (by omega)]
          exact ih ((meet s.1 s.2 l[i].f0 l[i].f1).1, (meet s.1 s.2 l[i].f0 l[i].f1).2.1) trivial
        · rw [if_neg hm]
          exact Ev.ifneg hm (Ev.now _))
    have e : rd_T25 l 0 = l[0]'(by omega) := rdIv l 0 (by omega)
    rw [e]
    have := key 0 ((l[0]'(by omega)).f0, (l[0]'(by omega)).f1) (Nat.zero_le _) trivial
    rw [drop_get l 0 (by omega), meetF] at this
    have e2 : l = l[0]'(by omega) :: l.drop 1 := by rw [← drop_get l 0 (by omega)]; rfl
    have e3 : meetF (-100000) 100000 l = meetF (-100000) 100000 (l[0]'(by omega) :: l.drop 1) := congrArg _ e2
    rw [e3, meetF, meet_first]
    exact this

end Go.Proofs.Ythfnnlbppkhhjaa.Pure

/- The statement: for all lists of intervals, the program's MeetAll returns the same interval and the same bool as the reference's, and leaves the list as it was. No condition. -/
import Derived.Test.YthfnnlbppkhhjaaZDefFnExactMeetAll
import Derived.Test.YthfnnlbppkhhjaaPHFnExactMeetAll
import Derived.Test.YthfnnlbppkhhjaaPMeetAll
namespace Go.Proofs.Ythfnnlbppkhhjaa.Pure
open Go.RowKit Go.Proofs.Ythfnnlbppkhhjaa.Z Go.Proofs.YthfnnlbppkhhjaaW.PrintWords

theorem FnExactMeetAll : laws_FnExactMeetAll.Pure := by
  intro l hl
  refine Ev.rounds ?_
  unfold laws_FnExactMeetAll.f
  obtain ⟨s, hs, hs2⟩ := sz_IntervalS l hl.1 1048576 (by omega) (by omega)
  by_cases hn : s < 0
  · exact Ev.bind0 hs (Ev.ifpos hn (Ev.now _))
  · have hsm := (hs2 (by omega)).2
    have ht := to_IntervalS l hsm
    have hlen : (l.map c75_25).length ≤ 1048576 := by simpa using hsm.1
    have h1 := spec_meetAll (l.map c75_25) (by omega)
    have h2 := impl_meetAll (l.map c75_25) (by omega)
    have he := eq_IntervalS (l.map c75_25) (by unfold maxLen; omega)
    refine Ev.bind0 hs (Ev.ifneg hn (Ev.bind ht (Ev.bind h1 (Ev.bind ht (Ev.bind h2 ?_)))))
    refine Ev.bind0 (eq_Interval ⟨_, _⟩) (Ev.ifpos rfl ?_)
    refine Ev.step (fun k => by rw [laws_FnExactMeetAll.j0]) ?_
    refine Ev.ifneg (by simp) ?_
    exact Ev.bind ht (Ev.bind he (Ev.ifpos rfl (Ev.now _)))

end Go.Proofs.Ythfnnlbppkhhjaa.Pure

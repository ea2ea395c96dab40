/- The statement: for all replies, the program's AreReplies answers as the reference's does, and leaves the replies as they were. No condition. -/
import Derived.Test.YtghippahfkjhhaaZDefFnExactAreReplies
import Derived.Test.YtghippahfkjhhaaPHFnExactAreReplies
import Derived.Test.YtghippahfkjhhaaPAreReplies
namespace Go.Proofs.Ytghippahfkjhhaa.Pure
open Go.RowKit Go.Proofs.Ytghippahfkjhhaa.Z Go.Proofs.YtghippahfkjhhaaW.PrintWords

theorem FnExactAreReplies : laws_FnExactAreReplies.Pure := by
  intro l hl
  refine Ev.rounds ?_
  unfold laws_FnExactAreReplies.f
  obtain ⟨s, hs, hs2⟩ := sz_ReplyS l hl.1 1048576 (by omega) (by omega)
  by_cases hn : s < 0
  · exact Ev.bind0 hs (Ev.ifpos hn (Ev.now _))
  · have hsm := (hs2 (by omega)).2
    have ht := to_ReplyS l hsm
    have hlen : (l.map c86_84).length ≤ 1048576 := by simpa using hsm.1
    have h1 := spec_replies (l.map c86_84) (by omega)
    have he := eq_ReplyS (l.map c86_84) (by unfold maxLen; omega)
    exact Ev.bind0 hs (Ev.ifneg hn (Ev.bind ht (Ev.bind h1 (Ev.bind ht (Ev.bind0 rfl (Ev.ifneg (by simp) (Ev.bind ht (Ev.bind he (Ev.ifpos rfl (Ev.now _))))))))))

end Go.Proofs.Ytghippahfkjhhaa.Pure

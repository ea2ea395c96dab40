/- The statement: for all probes and every link, the program's AloneOn returns the same index as the reference's, and leaves the probes as they were. No condition. -/
import Derived.Test.YtghippahfkjhhaaZDefFnExactAloneOn
import Derived.Test.YtghippahfkjhhaaPHFnExactAloneOn
import Derived.Test.YtghippahfkjhhaaPAloneOn
namespace Go.Proofs.Ytghippahfkjhhaa.Pure
open Go.RowKit Go.Proofs.Ytghippahfkjhhaa.Z Go.Proofs.YtghippahfkjhhaaW.PrintWords

theorem FnExactAloneOn : laws_FnExactAloneOn.Pure := by
  intro l a hl _
  refine Ev.rounds ?_
  unfold laws_FnExactAloneOn.f
  obtain ⟨s, hs, hs2⟩ := sz_ProbeS l hl.1 (fun x hx => (hl.2 x hx).2.2.1) 1048576 (by omega) (by omega)
  by_cases hn : s < 0
  · exact Ev.bind hs (Ev.ifpos hn (Ev.now _))
  · have hsm := (hs2 (by omega)).2
    have ht := to_ProbeS l hsm
    have hlen : (l.map c105_106).length ≤ 1048576 := by simpa using hsm.1
    have h1 := spec_aloneOn (l.map c105_106) a (by omega)
    have he := eq_ProbeS (l.map c105_106) ⟨hlen, fun x hx => by
      obtain ⟨y, hy, rfl⟩ := List.mem_map.1 hx
      exact ⟨trivial, trivial, (hsm.2 y hy).2.2.1, fun _ _ => trivial⟩⟩
    exact Ev.bind hs (Ev.ifneg hn (Ev.bind ht (Ev.bind h1 (Ev.bind ht (Ev.bind0 rfl (Ev.ifpos rfl (Ev.bind ht (Ev.bind he (Ev.ifpos rfl (Ev.now _))))))))))

end Go.Proofs.Ytghippahfkjhhaa.Pure

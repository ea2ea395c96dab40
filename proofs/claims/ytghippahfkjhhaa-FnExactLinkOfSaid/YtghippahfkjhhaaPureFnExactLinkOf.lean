/- The statement: for every network and every two numbers, the program's LinkOf returns the same index as the reference's, and leaves the network as it was. No condition. -/
import Derived.Test.YtghippahfkjhhaaZDefFnExactLinkOf
import Derived.Test.YtghippahfkjhhaaPHFnExactLinkOf
import Derived.Test.YtghippahfkjhhaaPLinkOf
namespace Go.Proofs.Ytghippahfkjhhaa.Pure
open Go.RowKit Go.Proofs.Ytghippahfkjhhaa.Z Go.Proofs.YtghippahfkjhhaaW.PrintWords

theorem FnExactLinkOf : laws_FnExactLinkOf.Pure := by
  intro n l a b hx _ _
  refine Ev.rounds ?_
  unfold laws_FnExactLinkOf.f
  obtain ⟨s, hs, hs2⟩ := sz_Net ⟨n, l⟩ hx.2.1 1048576 (by omega) (by omega)
  by_cases hn : s < 0
  · exact Ev.bind0 hs (Ev.ifpos hn (Ev.now _))
  · have hsm := (hs2 (by omega)).2
    have ht := to_Net ⟨n, l⟩ hsm
    have hlen : (l.map c92_80).length ≤ 1048576 := by simpa using hsm.2.1
    have h1 := spec_linkOf n (l.map c92_80) a b (by omega)
    have he := eq_Net ⟨n, l.map c92_80⟩ ⟨trivial, hlen, fun _ _ => ⟨trivial, trivial⟩⟩
    exact Ev.bind0 hs (Ev.ifneg hn (Ev.bind ht (Ev.bind h1 (Ev.bind ht (Ev.bind0 rfl (Ev.ifpos rfl (Ev.bind ht (Ev.bind he (Ev.ifpos rfl (Ev.now _))))))))))

end Go.Proofs.Ytghippahfkjhhaa.Pure

/- The statement: for every branch and key, the program's NextFor answers as the reference's does, and leaves the branch as it was. No condition. -/
import Derived.Test.YtfjiijlhheajmaaZDefFnExactNextFor
import Derived.Test.YtfjiijlhheajmaaPHFnExactNextFor
import Derived.Test.YtfjiijlhheajmaaPNextFor
namespace Go.Proofs.Ytfjiijlhheajmaa.Pure
open Go.RowKit Go.Proofs.Ytfjiijlhheajmaa.Z Go.Proofs.YtfjiijlhheajmaaW.PrintWords

theorem FnExactNextFor : laws_FnExactNextFor.Pure := by
  intro n l a hx _
  refine Ev.rounds ?_
  unfold laws_FnExactNextFor.f
  obtain ⟨s, hs, hs2⟩ := sz_Branch ⟨n, l⟩ hx.2.1 1048576 (by omega) (by omega)
  by_cases hn : s < 0
  · exact Ev.bind0 hs (Ev.ifpos hn (Ev.now _))
  · have hsm := (hs2 (by omega)).2
    have hlen : l.length ≤ 1048576 := hsm.2.1
    have ht := to_Branch ⟨n, l⟩ hsm
    have h1 := spec_nextFor n l a (by omega)
    have h2 := impl_nextFor n l a (by omega)
    have he := eq_Branch ⟨n, l⟩ ⟨trivial, hlen, fun _ _ => trivial⟩
    exact Ev.bind0 hs (Ev.ifneg hn (Ev.bind ht (Ev.bind h1 (Ev.bind ht (Ev.bind h2 (Ev.ifpos rfl (Ev.bind ht (Ev.bind he (Ev.ifpos rfl (Ev.now _))))))))))

end Go.Proofs.Ytfjiijlhheajmaa.Pure

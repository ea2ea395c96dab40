/- The statement: for every network, the program's IsNet answers as the reference's does, and leaves the network as it was. No condition. -/
import Derived.Test.YthfnnlbppkhhjaaZDefFnExactIsNet
import Derived.Test.YthfnnlbppkhhjaaPHFnExactIsNet
import Derived.Test.YthfnnlbppkhhjaaPNet
namespace Go.Proofs.Ythfnnlbppkhhjaa.Pure
open Go.RowKit Go.Proofs.Ythfnnlbppkhhjaa.Z Go.Proofs.YthfnnlbppkhhjaaW.PrintWords

theorem FnExactIsNet : laws_FnExactIsNet.Pure := by
  intro n l hx
  refine Ev.rounds ?_
  unfold laws_FnExactIsNet.f
  obtain ⟨s, hs, hs2⟩ := sz_Net ⟨n, l⟩ hx.2.1 1048576 (by omega) (by omega)
  by_cases hn : s < 0
  · exact Ev.bind0 hs (Ev.ifpos hn (Ev.now _))
  · have hsm := (hs2 (by omega)).2
    have ht := to_Net ⟨n, l⟩ hsm
    have hlen : (l.map c98_81).length ≤ 1048576 := by simpa using hsm.2.1
    have h1 := spec_net n (l.map c98_81) (by omega)
    have h2 := impl_net n (l.map c98_81) (by omega)
    have he := eq_Net ⟨n, l.map c98_81⟩ ⟨trivial, hlen, fun _ _ => ⟨trivial, trivial⟩⟩
    exact Ev.bind0 hs (Ev.ifneg hn (Ev.bind ht (Ev.bind h1 (Ev.bind ht (Ev.bind h2 (Ev.ifneg (by simp) (Ev.bind ht (Ev.bind he (Ev.ifpos rfl (Ev.now _))))))))))

end Go.Proofs.Ythfnnlbppkhhjaa.Pure

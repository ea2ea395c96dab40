/- The statement: for every network, path and two nodes, the program's IsPath answers as the reference's does, and leaves the network and the path as they were. No condition. -/
import Derived.Test.YtlghphhkbobhiaaZDefFnExactIsPath
import Derived.Test.YtlghphhkbobhiaaPHFnExactIsPath
import Derived.Test.YtlghphhkbobhiaaPIsPath
namespace Go.Proofs.Ytlghphhkbobhiaa.Pure
open Go.RowKit Go.Proofs.Ytlghphhkbobhiaa.Z Go.Proofs.YtlghphhkbobhiaaW.PrintWords

theorem FnExactIsPath : laws_FnExactIsPath.Pure := by
  intro n l p x y hx _ _ _ _ _
  refine Ev.rounds ?_
  unfold laws_FnExactIsPath.f
  by_cases hp : (p.length : Int) > 1048576
  · exact Ev.ifpos hp (Ev.now _)
  refine Ev.ifneg hp ?_
  obtain ⟨s, hs, hs2⟩ := sz_Net ⟨n, l⟩ hx.2.1 1048576 (by omega) (by omega)
  by_cases hn : s < 0
  · exact Ev.bind0 hs (Ev.ifpos hn (Ev.now _))
  · have hsm := (hs2 (by omega)).2
    have ht := to_Net ⟨n, l⟩ hsm
    have hlen : (l.map c116_107).length ≤ 1048576 := by simpa using hsm.2.1
    have ti := to_IntS p ⟨by omega, fun _ _ => trivial⟩
    have h1 := spec_isPath n (l.map c116_107) p x y (by omega) (by omega)
    have h2 := impl_isPath n (l.map c116_107) p x y (by omega) (by omega)
    have he := eq_Net ⟨n, l.map c116_107⟩ ⟨trivial, hlen, fun _ _ => ⟨trivial, trivial⟩⟩
    have hi := eq_IntS p (by unfold maxLen; omega)
    exact Ev.bind0 hs (Ev.ifneg hn (Ev.bind ht (Ev.bind ti (Ev.bind h1 (Ev.bind ht (Ev.bind ti (Ev.bind h2 (Ev.ifneg (by simp) (Ev.bind ht (Ev.bind he (Ev.ifpos rfl (Ev.bind ti (Ev.bind hi (Ev.ifpos rfl (Ev.now _)))))))))))))))

end Go.Proofs.Ytlghphhkbobhiaa.Pure

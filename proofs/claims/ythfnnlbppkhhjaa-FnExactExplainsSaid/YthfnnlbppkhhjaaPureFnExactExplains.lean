/- The statement: for every matrix, all verdicts and every set of links, the program's Explains answers as the reference's does, and leaves all three as they were. No condition. -/
import Derived.Test.YthfnnlbppkhhjaaZDefFnExactExplains
import Derived.Test.YthfnnlbppkhhjaaPHFnExactExplains
import Derived.Test.YthfnnlbppkhhjaaPExplains
namespace Go.Proofs.Ythfnnlbppkhhjaa.Pure
open Go.RowKit Go.Proofs.Ythfnnlbppkhhjaa.Z Go.Proofs.YthfnnlbppkhhjaaW.PrintWords

theorem FnExactExplains : laws_FnExactExplains.Pure := by
  intro m bad s hm hb _ _ _
  refine Ev.rounds ?_
  unfold laws_FnExactExplains.f
  by_cases h1 : (bad.length : Int) > 1048576
  · exact Ev.ifpos h1 (Ev.now _)
  · by_cases h2 : (s.length : Int) > 1048576
    · exact Ev.ifneg h1 (Ev.ifpos h2 (Ev.now _))
    · obtain ⟨z, hz, hz2⟩ := sz_IntSS m hm.1 (fun x hx => (hm.2 x hx).1) 1048576 (by omega) (by omega)
      by_cases hn : z < 0
      · exact Ev.ifneg h1 (Ev.ifneg h2 (Ev.bind hz (Ev.ifpos hn (Ev.now _))))
      · have hsm := (hz2 (by omega)).2
        have tm := to_IntSS m hsm
        have tb := to_BoolS bad ⟨by omega, fun _ _ => trivial⟩
        have ts := to_IntS s ⟨by omega, fun _ _ => trivial⟩
        have em := eq_IntSS m hsm
        have eb := eq_BoolS bad (by unfold maxLen; omega)
        have es := eq_IntS s (by unfold maxLen; omega)
        have hs := spec_explains m bad s hsm.1 (fun x hx => (hsm.2 x hx).1) (by omega)
        have hi := impl_explains m bad s hsm.1
        refine Ev.ifneg h1 (Ev.ifneg h2 (Ev.bind hz (Ev.ifneg hn (Ev.bind tm (Ev.bind tb (Ev.bind ts (Ev.bind hs (Ev.bind tm (Ev.bind tb (Ev.bind ts (Ev.bind hi ?_)))))))))))
        exact Ev.ifneg (by simp) (Ev.bind tm (Ev.bind em (Ev.ifpos rfl (Ev.bind tb (Ev.bind eb (Ev.ifpos rfl (Ev.bind ts (Ev.bind es (Ev.ifpos rfl (Ev.now _))))))))))

end Go.Proofs.Ythfnnlbppkhhjaa.Pure

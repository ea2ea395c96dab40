/- The statement: for every row and every list of links, the program's FailsWith answers as the reference's does, and leaves both as they were. No condition. -/
import Derived.Test.YtjfnnnhedeebeaaZDefFnExactFailsWith
import Derived.Test.YtjfnnnhedeebeaaPHFnExactFailsWith
import Derived.Test.YtjfnnnhedeebeaaPFailsWith
namespace Go.Proofs.Ytjfnnnhedeebeaa.Pure
open Go.RowKit Go.Proofs.Ytjfnnnhedeebeaa.Z Go.Proofs.YtjfnnnhedeebeaaW.PrintWords

theorem FnExactFailsWith : laws_FnExactFailsWith.Pure := by
  intro l m _ _ _ _ _ _
  refine Ev.rounds ?_
  unfold laws_FnExactFailsWith.f
  by_cases h1 : (l.length : Int) > 1048576
  · exact Ev.ifpos h1 (Ev.now _)
  · by_cases h2 : (m.length : Int) > 1048576
    · exact Ev.ifneg h1 (Ev.ifpos h2 (Ev.now _))
    · have tl := to_IntS l ⟨by omega, fun _ _ => trivial⟩
      have tm := to_IntS m ⟨by omega, fun _ _ => trivial⟩
      have el := eq_IntS l (by unfold maxLen; omega)
      have em := eq_IntS m (by unfold maxLen; omega)
      have hs := spec_failsWith l m (by omega) (by omega)
      refine Ev.ifneg h1 (Ev.ifneg h2 (Ev.bind tl (Ev.bind tm (Ev.bind hs (Ev.bind tl (Ev.bind tm (Ev.bind0 rfl ?_)))))))
      exact Ev.ifneg (by simp) (Ev.bind tl (Ev.bind el (Ev.ifpos rfl (Ev.bind tm (Ev.bind em (Ev.ifpos rfl (Ev.now _)))))))

end Go.Proofs.Ytjfnnnhedeebeaa.Pure

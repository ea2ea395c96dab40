/- The statement: for every interval, the program's WidthOf returns what the reference's does. No condition. -/
import Derived.Test.YtjfnnnhedeebeaaZDefFnExactWidthOf
namespace Go.Proofs.Ytjfnnnhedeebeaa.Pure
open Go.RowKit Go.Proofs.Ytjfnnnhedeebeaa.Z Go.Proofs.YtjfnnnhedeebeaaW.PrintWords

theorem FnExactWidthOf : laws_FnExactWidthOf.Pure := by
  intro a b _
  unfold laws_FnExactWidthOf.f spec_WidthOf.f impl_WidthOf.f spec_IsInterval.f impl_IsInterval.f laws_toInterval.f spec_l1In.f
  simp only [Option.bind_some]
  by_cases h1 : a ≤ b <;> by_cases h2 : -100000 ≤ a <;> by_cases h3 : b ≤ 100000 <;> by_cases h4 : a ≤ 100000 <;> by_cases h5 : -100000 ≤ b <;> first | omega | simp [h1, h2, h3, h4, h5]

end Go.Proofs.Ytjfnnnhedeebeaa.Pure

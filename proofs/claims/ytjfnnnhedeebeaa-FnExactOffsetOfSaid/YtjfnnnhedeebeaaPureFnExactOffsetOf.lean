/- The statement: for all four stamps, the program's OffsetOf returns the same interval and the same bool as the reference's. No condition. -/
import Derived.Test.YtjfnnnhedeebeaaPFnExactOffsetOfx1
namespace Go.Proofs.Ytjfnnnhedeebeaa.Pure
open Go.RowKit Go.Proofs.Ytjfnnnhedeebeaa.PFnExactOffsetOf Go.Proofs.YtjfnnnhedeebeaaW.PrintWords Go.Proofs.YtjfnnnhedeebeaaW.PrintLast

def inn (a : Int) : Bool := decide (0 ≤ a) && decide (a ≤ 100000)

theorem stamp (a : Int) : spec_l9Stamp.f a = some (inn a) := by
  unfold spec_l9Stamp.f spec_l1In.f inn
  by_cases h : 0 ≤ a <;> simp [h]

theorem range (a : Int) : impl_InRange.f a 0 100000 = some (inn a) := by
  unfold impl_InRange.f inn
  by_cases h : 0 ≤ a <;> simp [h]

theorem all4 (a b c d : Int) : impl_allIn.f 5 [a, b, c, d] 0 100000 = some (inn a && (inn b && (inn c && inn d))) := by
  have w0 : wrap64 (0 + 1) = 1 := by unfold wrap64; omega
  have w1 : wrap64 (1 + 1) = 2 := by unfold wrap64; omega
  have w2 : wrap64 (2 + 1) = 3 := by unfold wrap64; omega
  have w3 : wrap64 (3 + 1) = 4 := by unfold wrap64; omega
  unfold impl_allIn.f
  simp only [impl_allIn.l0, w0, w1, w2, w3, List.length_cons, List.length_nil, rd, range, Option.bind_some]
  cases ha : inn a <;> cases hb : inn b <;> cases hc : inn c <;> cases hd : inn d <;> simp [ha, hb, hc, hd]

theorem FnExactOffsetOf : laws_FnExactOffsetOf.Pure := by
  intro a0 a1 a2 a3 _ _ _ _
  refine ⟨5, ?_⟩
  unfold laws_FnExactOffsetOf.f spec_OffsetOf.f impl_OffsetOf.f
  simp only [stamp, all4, Option.bind_some]
  generalize wrap64 (a2 - a3) = x
  generalize wrap64 (a1 - a0) = y
  cases inn a0 <;> cases inn a1 <;> cases inn a2 <;> cases inn a3 <;> by_cases k : x > y <;> simp [k, laws_eqInterval.f]

end Go.Proofs.Ytjfnnnhedeebeaa.Pure

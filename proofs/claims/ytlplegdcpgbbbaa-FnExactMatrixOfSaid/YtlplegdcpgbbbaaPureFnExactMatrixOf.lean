/- The statement: for all probes and every number of links, the program's MatrixOf answers as the reference's does, leaves the probes as they were, and its rows share no memory with the probes, with one another or with another answer. No condition. -/
import Derived.Test.YtlplegdcpgbbbaaZDefFnExactMatrixOf
import Derived.Test.YtlplegdcpgbbbaaPHFnExactMatrixOf
import Derived.Test.YtlplegdcpgbbbaaPMatrixOf
import Derived.Test.YtlplegdcpgbbbaaPMarkSS
import Derived.Test.YtlplegdcpgbbbaaPMarkProbe
namespace Go.Proofs.Ytlplegdcpgbbbaa.Pure
open Go.RowKit Go.Proofs.Ytlplegdcpgbbbaa.Z Go.Proofs.YtlplegdcpgbbbaaW.PrintWords

theorem FnExactMatrixOf : laws_FnExactMatrixOf.Pure := by
  intro l a hl _
  refine Ev.rounds ?_
  unfold laws_FnExactMatrixOf.f
  obtain ⟨s, hs, hs2⟩ := sz_ProbeS l hl.1 (fun x hx => (hl.2 x hx).2.2.1) 1048576 (by omega) (by omega)
  by_cases hn : s < 0
  · exact Ev.bind hs (Ev.ifpos hn (Ev.now _))
  · have hsm := (hs2 (by omega)).2
    have ht := to_ProbeS l hsm
    have hlen : (l.map c108_38).length ≤ 1048576 := by simpa using hsm.1
    have hsm2 : (smL smS38) (l.map c108_38) := by
      refine ⟨hlen, fun x hx => ?_⟩
      obtain ⟨y, hy, rfl⟩ := List.mem_map.1 hx
      exact hsm.2 y hy
    have hp : ∀ p ∈ l.map c108_38, p.f2.length ≤ 1048576 := fun p hp => (hsm2.2 p hp).2.2.1
    have he := eq_ProbeS (l.map c108_38) hsm2
    generalize l.map c108_38 = q at *
    have h1 := spec_matrixOf q a hlen hp
    have h2 := impl_matrixOf q a hlen hp
    have hq1 := matrixOf_length q a
    have hq2 := matrixOf_rows q a
    generalize matrixOf q a = m at *
    have hi := eq_IntSS m ⟨by omega, fun r hr => ⟨by have := hq2 r hr; omega, fun _ _ => trivial⟩⟩
    have ht1 := totP_le 1048576 q hp
    have ht2 := tot_le 6 m hq2
    have hb1 : totP q ≤ 1048578 * 1048576 := Nat.le_trans ht1 (Nat.mul_le_mul_left _ hlen)
    have hmp := mark_ProbeS q 1 (by omega) (by omega) (by omega)
    have hms := mark_IntSS m 1 (by omega) (by omega) (by omega)
    have hhs := held_IntSS m 1 (by omega) (by omega) (by omega)
    refine Ev.bind hs (Ev.ifneg hn (Ev.bind ht (Ev.bind h1 (Ev.bind ht (Ev.bind h2 (Ev.bind hi (Ev.ifpos rfl (Ev.bind ht (Ev.bind he (Ev.ifpos rfl (Ev.bind hmp (Ev.ifneg (by omega) (Ev.bind hi (Ev.ifpos rfl ?_))))))))))))))
    exact Ev.bind hms (Ev.bind hhs (Ev.ifneg (by omega) (Ev.ifpos rfl (Ev.bind ht (Ev.bind h2 (Ev.bind hi (Ev.ifpos rfl (Ev.bind hhs (Ev.ifneg (by omega) (Ev.ifpos rfl (Ev.now _)))))))))))

end Go.Proofs.Ytlplegdcpgbbbaa.Pure

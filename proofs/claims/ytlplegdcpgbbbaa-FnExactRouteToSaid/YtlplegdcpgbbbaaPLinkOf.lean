/- Plain lemma: what the reference's LinkOf returns: the first link that connects the two. Condition: the list is not longer than a list can be. -/
import Derived.Test.YtlplegdcpgbbbaaPFirst
import Derived.Test.YtlplegdcpgbbbaaZ2
import Derived.Test.YtlplegdcpgbbbaaZ6
namespace Go.Proofs.Ytlplegdcpgbbbaa.Pure
open Go.RowKit Go.Proofs.Ytlplegdcpgbbbaa.Z Go.Proofs.YtlplegdcpgbbbaaW.PrintWords

theorem rdLink (xs : List S93) (i : Nat) (h : i < xs.length) : rd_T93 xs (i : Int) = xs[i] := getD_get xs i _ h

theorem spec_linkOf (n : Int) (l : List S93) (a b : Int) (hl : l.length ≤ 9223372036854775806) : Ev (fun k => spec_LinkOf.f k n l a b) (firstAt (isLink a b) l) := by
  unfold spec_LinkOf.f
  refine first_loop (isLink a b) l (fun i k => spec_LinkOf.l0 k a b (i : Int) n l) ?_ ?_ ?_
  · refine Ev.step (fun k => by rw [spec_LinkOf.l0]) ?_
    exact Ev.ifneg (by omega) (Ev.now _)
  · intro i hi h
    refine Ev.step (fun k => by rw [spec_LinkOf.l0]) ?_
    refine Ev.ifpos (by omega) (Ev.ifpos (by omega) ?_)
    rw [rdLink l i hi]
    unfold isLink at h
    by_cases h1 : (l[i].f0 == a && l[i].f1 == b) = true
    · exact Ev.ifpos h1 (Ev.now _)
    · refine Ev.ifneg h1 (Ev.ifpos ?_ (Ev.now _))
      simpa [h1] using h
  · intro i hi r h hr
    refine Ev.step (fun k => by rw [spec_LinkOf.l0]) ?_
    refine Ev.ifpos (by omega) (Ev.ifpos (by omega) ?_)
    rw [rdLink l i hi]
    unfold isLink at h
    rw [Bool.or_eq_false_iff] at h
    refine Ev.ifneg (by rw [h.1]; exact Bool.noConfusion) (Ev.ifneg (by rw [h.2]; exact Bool.noConfusion) ?_)
    rw [wrap_succ (by omega)]
    exact hr

end Go.Proofs.Ytlplegdcpgbbbaa.Pure

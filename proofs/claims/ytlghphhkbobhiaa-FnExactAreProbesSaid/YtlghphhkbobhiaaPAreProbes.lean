/- Plain lemmas: what the reference's and the program's AreProbes answer. Condition: the lists are not longer than lists can be. -/
import Derived.Test.YtlghphhkbobhiaaPIsPath
import Derived.Test.YtlghphhkbobhiaaPNet
import Derived.Test.YtlghphhkbobhiaaPAll2
import Derived.Test.YtlghphhkbobhiaaZ9
import Derived.Test.YtlghphhkbobhiaaZ10
namespace Go.Proofs.Ytlghphhkbobhiaa.Pure
open Go.RowKit Go.Proofs.Ytlghphhkbobhiaa.Z Go.Proofs.YtlghphhkbobhiaaW.PrintWords

def okProbe (ls : List S107) (p : S102) : Bool := !decide (p.f2.length = 0) && isPath ls p.f2 p.f0 p.f1
def areProbes (n : Int) (ls : List S107) (ps : List S102) : Bool := ps.all (okProbe ls) && (isNet n ls && decide (ps.length ≤ 12))

theorem rdPr (ps : List S102) (i : Nat) (h : i < ps.length) : rd_T102 ps (i : Int) = ps[i] := getD_get ps i _ h

theorem spec_areProbes (n : Int) (ls : List S107) (ps : List S102) (hl : ls.length ≤ 9223372036854775806) (hp : ps.length ≤ 9223372036854775806) (hx : ∀ p ∈ ps, p.f2.length ≤ 9223372036854775806) : Ev (fun k => spec_AreProbes.f k n ls ps) (areProbes n ls ps) := by
  unfold spec_AreProbes.f areProbes
  refine all_step (okProbe ls) ps (fun i k => spec_AreProbes.l0 k ps (i : Int) n ls) _ ?_ ?_
  · refine Ev.step (fun k => by rw [spec_AreProbes.l0]) ?_
    refine Ev.ifneg (by omega) (Ev.bind (spec_net n ls hl) ?_)
    cases isNet n ls
    · exact Ev.ifneg (by decide) (Ev.now _)
    · refine Ev.ifpos rfl (Ev.pure ?_)
      rw [Bool.true_and]
      exact decide_eq_decide.2 (by omega)
  · intro i hi r hr
    refine Ev.step (fun k => by rw [spec_AreProbes.l0]) ?_
    refine Ev.ifpos (by omega) (Ev.ifpos (by omega) ?_)
    rw [rdPr ps i hi, wrap_succ (by omega)]
    unfold okProbe
    by_cases h : ps[i].f2.length = 0
    · refine Ev.ifpos (by omega) (Ev.pure ?_)
      rw [decide_eq_true h]
      rfl
    · refine Ev.ifneg (by omega) (Ev.bind (spec_isPath n ls _ _ _ hl (hx _ (List.getElem_mem hi))) ?_)
      rw [decide_eq_false h]
      cases isPath ls ps[i].f2 ps[i].f0 ps[i].f1
      · exact Ev.ifneg (by decide) (Ev.now _)
      · refine Ev.ifpos rfl ?_
        simpa using hr

theorem ev_anyO {α : Type} (g : Nat → α → Option Bool) (p : α → Bool) : ∀ xs : List α, (∀ x ∈ xs, Ev (fun k => g k x) (p x)) → Ev (fun k => anyO (g k) xs) (xs.any p)
  | [], _ => Ev.now _
  | x :: xs, h => by
    rw [List.any_cons]
    exact Ev.bind (h x (List.mem_cons_self ..)) (Ev.bind (ev_anyO g p xs (fun y hy => h y (List.mem_cons_of_mem _ hy))) (Ev.now _))

theorem impl_areProbes (n : Int) (ls : List S107) (ps : List S102) (hl : ls.length ≤ 9223372036854775806) (hx : ∀ p ∈ ps, p.f2.length ≤ 9223372036854775806) : Ev (fun k => impl_AreProbes.f k n ls ps) (areProbes n ls ps) := by
  unfold impl_AreProbes.f areProbes
  refine Ev.bind (impl_net n ls hl) ?_
  cases isNet n ls
  · exact Ev.ifneg (by decide) (Ev.pure (by simp))
  · refine Ev.ifpos rfl ?_
    by_cases h : ps.length ≤ 12
    · rw [decide_eq_true h, Bool.true_and, Bool.and_true]
      refine Ev.ifpos (by omega) (Ev.bind (ev_anyO (fun k => badProbe k n ls) (fun p => !okProbe ls p) ps ?_) (Ev.pure ?_))
      · intro p hp
        unfold badProbe okProbe
        by_cases h0 : p.f2.length = 0
        · refine Ev.ifpos h0 (Ev.pure ?_)
          rw [decide_eq_true h0]
          rfl
        · refine Ev.ifneg h0 (Ev.bind (impl_isPath n ls _ _ _ hl (hx _ hp)) (Ev.pure ?_))
          rw [decide_eq_false h0]
          simp
      · rw [List.all_eq_not_any_not]
    · rw [decide_eq_false h]
      exact Ev.ifneg (by omega) (Ev.pure (by simp))

end Go.Proofs.Ytlghphhkbobhiaa.Pure

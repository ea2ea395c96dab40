/- Plain lemmas: what the program's and the reference's IsNet answer. Condition: the list is not longer than a list can be. -/
import Derived.Test.YtlplegdcpgbbbaaPLinkOf
import Derived.Test.YtlplegdcpgbbbaaPIn
import Derived.Test.YtlplegdcpgbbbaaZ2
import Derived.Test.YtlplegdcpgbbbaaZ7
namespace Go.Proofs.Ytlplegdcpgbbbaa.Pure
open Go.RowKit Go.Proofs.Ytlplegdcpgbbbaa.Z Go.Proofs.YtlplegdcpgbbbaaW.PrintWords

abbrev Lk := S93

theorem firstAt_le {α : Type} (p : α → Bool) (xs : List α) (i : Nat) (h : i < xs.length) (hp : p xs[i] = true) : 0 ≤ firstAt p xs ∧ firstAt p xs ≤ (i : Int) := by
  have h1 : xs.findIdx p ≤ i := by
    rcases Nat.lt_or_ge i (xs.findIdx p) with hlt | hge
    · have := List.not_of_lt_findIdx hlt
      rw [hp] at this
      exact Bool.noConfusion this
    · exact hge
  unfold firstAt
  rw [if_pos (by omega)]
  omega

/-- Does link i of the network lead between two nodes, and is it the first that connects them? -/
def linkOk (n : Int) (l : List Lk) (i : Nat) : Bool :=
  decide (0 ≤ (rd_T93 l (i : Int)).f0 ∧ (rd_T93 l (i : Int)).f0 < n) && (decide (0 ≤ (rd_T93 l (i : Int)).f1 ∧ (rd_T93 l (i : Int)).f1 < n) &&
    (decide ((rd_T93 l (i : Int)).f0 ≠ (rd_T93 l (i : Int)).f1) && decide (firstAt (isLink (rd_T93 l (i : Int)).f0 (rd_T93 l (i : Int)).f1) l = (i : Int))))

def isNet (n : Int) (l : List Lk) : Bool := decide (1 ≤ n ∧ n ≤ 8) && (decide (1 ≤ l.length ∧ l.length ≤ 6) && (List.range l.length).all (linkOk n l))

theorem isLink_self (k : Lk) : isLink k.f0 k.f1 k = true := by unfold isLink; simp

theorem spec_net_from (n : Int) (l : List Lk) (h1 : 1 ≤ n) (h2 : n ≤ 8) (hl : l.length ≤ 9223372036854775806) : ∀ i, i ≤ l.length → Ev (fun k => spec_IsNet.l0 k (i : Int) n l) (((List.range l.length).drop i).all (linkOk n l)) := by
  have hw : wrap64 (n - 1) = n - 1 := wrap_in (by omega) (by omega)
  refine Ev.up0 l.length (fun i k => spec_IsNet.l0 k (i : Int) n l) (fun i => ((List.range l.length).drop i).all (linkOk n l)) ?_ ?_
  · rw [List.drop_of_length_le (by simp)]
    refine Ev.step (fun k => by rw [spec_IsNet.l0]) ?_
    exact Ev.ifneg (by omega) (Ev.now _)
  · intro i hi ih
    rw [drop_get _ i (by simpa using hi), List.all_cons, List.getElem_range]
    generalize ((List.range l.length).drop (i + 1)).all (linkOk n l) = r at ih ⊢
    refine Ev.step (fun k => by rw [spec_IsNet.l0]) ?_
    refine Ev.ifpos (by omega) (Ev.ifpos (by omega) ?_)
    unfold linkOk
    rw [rdLink l i hi, hw]
    refine Ev.bind0 (spec_in _ _ _) ?_
    by_cases a1 : 0 ≤ l[i].f0 ∧ l[i].f0 < n
    · refine Ev.ifpos (decide_eq_true (by omega)) (Ev.bind0 (spec_in _ _ _) ?_)
      by_cases a2 : 0 ≤ l[i].f1 ∧ l[i].f1 < n
      · refine Ev.ifpos (decide_eq_true (by omega)) ?_
        by_cases a3 : l[i].f0 = l[i].f1
        · exact Ev.ifpos a3 (Ev.pure (by simp [a3]))
        · refine Ev.ifneg a3 (Ev.bind (spec_linkOf n l _ _ hl) ?_)
          have hf := firstAt_le (isLink l[i].f0 l[i].f1) l i hi (isLink_self _)
          by_cases a4 : firstAt (isLink l[i].f0 l[i].f1) l < (i : Int)
          · refine Ev.ifpos a4 (Ev.pure ?_)
            have : ¬ firstAt (isLink l[i].f0 l[i].f1) l = (i : Int) := by omega
            simp [this]
          · refine Ev.ifneg a4 ?_
            have : firstAt (isLink l[i].f0 l[i].f1) l = (i : Int) := by omega
            rw [wrap_succ (by omega)]
            simpa [a1, a2, a3, this] using ih
      · refine Ev.ifneg (by rw [decide_eq_true_eq]; omega) (Ev.pure ?_)
        rw [decide_eq_false a2]
        simp
    · refine Ev.ifneg (by rw [decide_eq_true_eq]; omega) (Ev.pure ?_)
      rw [decide_eq_false a1]
      simp

theorem spec_net (n : Int) (l : List Lk) (hl : l.length ≤ 9223372036854775806) : Ev (fun k => spec_IsNet.f k n l) (isNet n l) := by
  unfold spec_IsNet.f isNet
  refine Ev.bind0 (spec_in _ _ _) ?_
  by_cases h1 : 1 ≤ n ∧ n ≤ 8
  · refine Ev.ifpos (decide_eq_true h1) (Ev.bind0 (spec_in _ _ _) ?_)
    by_cases h2 : 1 ≤ l.length ∧ l.length ≤ 6
    · have e : decide (1 ≤ (l.length : Int) ∧ (l.length : Int) ≤ 6) = true := decide_eq_true (by omega)
      rw [e, decide_eq_true h1, decide_eq_true h2]
      refine Ev.step (fun k => by rw [spec_IsNet.j0]) (Ev.ifneg (by decide) ?_)
      simpa using spec_net_from n l h1.1 h1.2 hl 0 (Nat.zero_le _)
    · have e : decide (1 ≤ (l.length : Int) ∧ (l.length : Int) ≤ 6) = false := decide_eq_false (by omega)
      rw [e, decide_eq_false h2]
      refine Ev.step (fun k => by rw [spec_IsNet.j0]) ?_
      exact Ev.ifpos rfl (Ev.pure (by simp))
  · rw [decide_eq_false h1]
    exact Ev.ifneg (by decide) (Ev.step (fun k => by rw [spec_IsNet.j0]) (Ev.ifpos rfl (Ev.pure (by simp))))

theorem impl_at_eq (i n : Int) : impl_at.f i n = some (decide (0 ≤ i ∧ i < n)) := by
  unfold impl_at.f
  by_cases h : 0 ≤ i <;> simp [h]

theorem impl_in (n a b : Int) : impl_InRange.f n a b = some (decide (a ≤ n ∧ n ≤ b)) := by
  unfold impl_InRange.f
  by_cases h : a ≤ n <;> simp [h]

theorem impl_net_from (n : Int) (l : List Lk) (hl : l.length ≤ 9223372036854775806) : ∀ i, i ≤ l.length → Ev (fun k => impl_IsNet.l0 k l (l.length : Int) (i : Int) n l) (((List.range l.length).drop i).all (linkOk n l)) := by
  refine Ev.up0 l.length (fun i k => impl_IsNet.l0 k l (l.length : Int) (i : Int) n l) (fun i => ((List.range l.length).drop i).all (linkOk n l)) ?_ ?_
  · rw [List.drop_of_length_le (by simp)]
    refine Ev.step (fun k => by rw [impl_IsNet.l0]) ?_
    exact Ev.ifneg (by omega) (Ev.now _)
  · intro i hi ih
    rw [drop_get _ i (by simpa using hi), List.all_cons, List.getElem_range]
    generalize ((List.range l.length).drop (i + 1)).all (linkOk n l) = r at ih ⊢
    refine Ev.step (fun k => by rw [impl_IsNet.l0]) ?_
    refine Ev.ifpos (by omega) (Ev.ifpos (by omega) (Ev.ifpos (by omega) ?_))
    unfold linkOk
    rw [rdLink l i hi]
    by_cases a3 : l[i].f0 = l[i].f1
    · exact Ev.ifpos a3 (Ev.pure (by simp [a3]))
    · refine Ev.ifneg a3 (Ev.bind0 (impl_at_eq _ _) ?_)
      by_cases a1 : 0 ≤ l[i].f0 ∧ l[i].f0 < n
      · refine Ev.ifpos (decide_eq_true a1) (Ev.bind0 (impl_at_eq _ _) ?_)
        by_cases a2 : 0 ≤ l[i].f1 ∧ l[i].f1 < n
        · refine Ev.ifpos (decide_eq_true a2) (Ev.bind0 rfl ?_)
          by_cases a4 : firstAt (isLink l[i].f0 l[i].f1) l = (i : Int)
          · refine Ev.ifpos a4 ?_
            rw [wrap_succ (by omega)]
            simpa [a1, a2, a3, a4] using ih
          · exact Ev.ifneg a4 (Ev.pure (by simp [a4]))
        · refine Ev.ifneg (by rw [decide_eq_true_eq]; omega) (Ev.pure ?_)
          rw [decide_eq_false a2]
          simp
      · refine Ev.ifneg (by rw [decide_eq_true_eq]; omega) (Ev.pure ?_)
        rw [decide_eq_false a1]
        simp

theorem impl_net (n : Int) (l : List Lk) (hl : l.length ≤ 9223372036854775806) : Ev (fun k => impl_IsNet.f k n l) (isNet n l) := by
  unfold impl_IsNet.f isNet
  refine Ev.bind0 (impl_in _ _ _) ?_
  by_cases h1 : 1 ≤ n ∧ n ≤ 8
  · refine Ev.ifpos (decide_eq_true h1) (Ev.bind0 (impl_in _ _ _) ?_)
    by_cases h2 : 1 ≤ l.length ∧ l.length ≤ 6
    · have e : decide (1 ≤ (l.length : Int) ∧ (l.length : Int) ≤ 6) = true := decide_eq_true (by omega)
      rw [e, decide_eq_true h1, decide_eq_true h2]
      refine Ev.step (fun k => by rw [impl_IsNet.j0]) (Ev.ifneg (by decide) ?_)
      simpa using impl_net_from n l hl 0 (Nat.zero_le _)
    · have e : decide (1 ≤ (l.length : Int) ∧ (l.length : Int) ≤ 6) = false := decide_eq_false (by omega)
      rw [e, decide_eq_false h2]
      refine Ev.step (fun k => by rw [impl_IsNet.j0]) ?_
      exact Ev.ifpos rfl (Ev.pure (by simp))
  · rw [decide_eq_false h1]
    exact Ev.ifneg (by decide) (Ev.step (fun k => by rw [impl_IsNet.j0]) (Ev.ifpos rfl (Ev.pure (by simp))))

end Go.Proofs.Ytlplegdcpgbbbaa.Pure
